/- Motion: what is as defined. -/
import Derived.Test.YtppebpagcocogaaGreatU12
import Derived.Test.YtppebpagcocogaaGreatU9
import Derived.KernelRfl
import Derived.Test.YtppebpagcocogaaGreatU7
set_option linter.unusedSimpArgs false
set_option linter.unusedVariables false
set_option linter.unusedSectionVars false
namespace Go.Ai.Sx
open Option renaming bind->Zb,bind_some->Zs
def inB (n a b:Int):Bool:=decide (a<=n)&&decide (n<=b)
theorem zI {n a b:Int}:inB n a b=true↔a<=n/\n<=b:=by
 unfold inB;rw [Bool.and_eq_true,decide_eq_true_eq,decide_eq_true_eq]
theorem zfc (n a b:Int):(Zb (cond (decide (n>=a)) (some (decide (n<=b))) (some false)) λc2=>some c2)=some (inB n a b):=by
 unfold inB;by_cases h:a<=n<;>simp [h]
theorem mwithin (n a b:Int):zO n a b=some (inB n a b):=zfc n a b
theorem rin (n a b:Int):zba n a b=some (inB n a b):=zfc n a b
theorem zh2 {A:Type} (s:List A) (hs:s.length<=9223372036854775807) (f:A->Option Bool) (p:A->Bool) (hf:∀ x∈s,f x=some (p x)) :
    ∃ k:Int,(Zb (iter (σ:=(Int)) (τ:=Unit⊕(Int)) (λs5=>
cond (decide (s5<(zm s))) (Zb (idx s s5) λx8=>
Zb (f x8) λy9=>
cond (y9) (some (.inr (.inr s5))) (some (.inl (w64 (s5+1))))) (some (.inr (.inl ())))) big 0) λt11=>
alt (λb13=>some (-1)) (λb14=>some b14) t11)=some k/\decide (k>=0)=s.any p:=by
  rw [zkg s.length (λi:Nat=>match s[i]? with | some x=>if p x then some (i:Int) else none | none=>none) (by simp only [big]; omega)]
  · cases h:(List.range s.length).findSome? (λi:Nat=>match s[i]? with | some x=>if p x then some (i:Int) else none | none=>none) with
    | none=>
      simp only [Zs,alt];refine ⟨-1,rfl, ?_⟩;have:s.any p=false:=by
        rw [List.any_eq_false];intro x hx hp;obtain ⟨i,hi,rfl⟩:=List.getElem_of_mem hx;rw [List.findSome?_eq_none_iff] at h;have:=h i (List.mem_range.2 hi);rw [List.getElem?_eq_getElem hi] at this;simp only [hp,if_true] at this;cases this
      rw [this];rfl
    | some k=>
      simp only [Zs,alt];refine ⟨k,rfl, ?_⟩;obtain ⟨i,hi,h2⟩:=List.exists_of_findSome?_eq_some h;have hi:=List.mem_range.1 hi;rw [List.getElem?_eq_getElem hi] at h2;simp only [] at h2;split at h2
      · rename_i hp;cases h2;rw [decide_eq_true (Int.natCast_nonneg i)];exact (List.any_eq_true.2 ⟨_,List.getElem_mem hi,hp⟩).symm
      · cases h2
  · intro i hi;rw [decide_eq_true (show (i:Int)<zm s by rw [zp]; omega),cond_true,zbD hi,Zs,hf _ (List.getElem_mem hi),Zs,List.getElem?_eq_getElem hi];simp only [];rw [zh (by omega) (by omega)];cases p s[i]<;>rfl
  · rw [decide_eq_false (show ¬ (s.length:Int)<zm s by rw [zp]; omega),cond_false]
theorem zi5 (s:List Int) (hs:s.length<=9223372036854775807) (f:Int->Option Bool) (p:Int->Bool) (hf:∀ x∈s,f x=some (p x)):zas s f=some (s.any p):=by
 obtain ⟨k,h1,h2⟩:=zh2 s hs f p hf;unfold zas zbf;rw [h1,Zs,h2]
def trB (t:Train):Bool:=inB t.1 1000 80000&&inB t.2.1 1 60000&&inB t.2.2.1 1 25000&&inB t.2.2.2.1 1 200000&&inB t.2.2.2.2.1 1 200000&&inB t.2.2.2.2.2.1 1 2000000&&inB t.2.2.2.2.2.2.1 0 100000&&inB t.2.2.2.2.2.2.2.1 0 10000&&inB t.2.2.2.2.2.2.2.2.1 0 100&&(inB t.2.2.2.2.2.2.2.2.2.1.length 1 8&&t.2.2.2.2.2.2.2.2.2.1.all λg=>inB g 1 1000)
theorem zuM (t:Train):zdx t=some (if trB t then 0 else 2):=by
 unfold zdx trB;simp only [mwithin,Zs,zp];cases inB t.1 1000 80000
 . rfl
 cases inB t.2.1 1 60000
 . rfl
 cases inB t.2.2.1 1 25000
 . rfl
 cases inB t.2.2.2.1 1 200000
 . rfl
 cases inB t.2.2.2.2.1 1 200000
 . rfl
 cases inB t.2.2.2.2.2.1 1 2000000
 . rfl
 cases inB t.2.2.2.2.2.2.1 0 100000
 . rfl
 cases inB t.2.2.2.2.2.2.2.1 0 10000
 . rfl
 cases inB t.2.2.2.2.2.2.2.2.1 0 100
 . rfl
 cases hl:inB (t.2.2.2.2.2.2.2.2.2.1.length:Int) 1 8
 . rfl
 have hl:=zI.1 hl;simp only [Bool.not_true,cond_false,Zs,Bool.true_and];rw [zi5 _ (by omega) _ (λg=>!inB g 1 1000) (λx _=>by unfold zeT; rw [mwithin]; rfl)];simp only [Zs];rw [List.any_eq_not_all_not];simp only [Bool.not_not];cases t.2.2.2.2.2.2.2.2.2.1.all λg=>inB g 1 1000<;>rfl
theorem zgJ {ρ:Type} {f:Int->Option (Int⊕(Unit⊕ρ))} {A:Type} (l:List A) (p:A->Bool) (r0:ρ) (hN:l.length<=9223372036854775807) (hf:∀ (i:Nat) (h:i<l.length),f i=some (if p l[i] then .inl ((i:Int)+1) else .inr (.inr r0))) (he:f l.length=some (.inr (.inl ()))) :
 iter f big 0=some (if l.all p then .inl () else .inr r0):=by
 rw [zuL l.length (λi=>if h:i<l.length then p l[i] else true) r0 (by simp only [big]; omega) (λi hi=>by rw [hf i hi,dif_pos hi]) he];congr 1;have:((List.range l.length).all λi=>if h:i<l.length then p l[i] else true)=l.all p:=by
  rw [Bool.eq_iff_iff,List.all_eq_true,List.all_eq_true];constructor
  . intro h x hx;obtain ⟨i,hi,rfl⟩:=List.getElem_of_mem hx;have:=h i (List.mem_range.2 hi);rwa [dif_pos hi] at this
  . intro h i hi;have hi:=List.mem_range.1 hi;rw [dif_pos hi];exact h _ (List.getElem_mem hi)
 rw [this]
theorem zuN (t:Train):zd5 t=some (trB t):=by
 unfold zd5 trB;simp only [rin,Zs];rw [show ((t.2.2.2.2.2.2.2.2.2.1.length:Nat):Int)=zm t.2.2.2.2.2.2.2.2.2.1 from rfl];cases inB t.1 1000 80000
 . rfl
 cases inB t.2.1 1 60000
 . rfl
 cases inB t.2.2.1 1 25000
 . rfl
 cases inB t.2.2.2.1 1 200000
 . rfl
 cases inB t.2.2.2.2.1 1 200000
 . rfl
 cases inB t.2.2.2.2.2.1 1 2000000
 . rfl
 cases inB t.2.2.2.2.2.2.1 0 100000
 . rfl
 cases inB t.2.2.2.2.2.2.2.1 0 10000
 . rfl
 cases inB t.2.2.2.2.2.2.2.2.1 0 100
 . rfl
 cases hl:inB (zm t.2.2.2.2.2.2.2.2.2.1) 1 8
 . rfl
 have hl:=zI.1 hl;rw [zp] at hl;simp only [Bool.not_true,cond_false,Zs,Bool.true_and];rw [zgJ t.2.2.2.2.2.2.2.2.2.1 (λg=>inB g 1 1000) false (by omega)]
 . cases t.2.2.2.2.2.2.2.2.2.1.all λg=>inB g 1 1000<;>rfl
 . intro i h;rw [decide_eq_true (show (i:Int)<zm t.2.2.2.2.2.2.2.2.2.1 by rw [zp]; omega),cond_true,zbD h,Zs,zh (by omega) (by omega)];cases inB _ 1 1000<;>rfl
 . rw [decide_eq_false (show ¬ ((t.2.2.2.2.2.2.2.2.2.1.length:Nat):Int)<zm t.2.2.2.2.2.2.2.2.2.1 by rw [zp]; omega),cond_false]
structure zkC (t:Train):Prop where
 m:1000<=t.1/\t.1<=80000
 len:1<=t.2.1/\t.2.1<=60000
 sp:1<=t.2.2.1/\t.2.2.1<=25000
 ef:1<=t.2.2.2.1/\t.2.2.2.1<=200000
 br:1<=t.2.2.2.2.1/\t.2.2.2.2.1<=200000
 po:1<=t.2.2.2.2.2.1/\t.2.2.2.2.2.1<=2000000
 re:0<=t.2.2.2.2.2.2.1/\t.2.2.2.2.2.2.1<=100000
 ri:0<=t.2.2.2.2.2.2.2.1/\t.2.2.2.2.2.2.2.1<=10000
 ba:0<=t.2.2.2.2.2.2.2.2.1/\t.2.2.2.2.2.2.2.2.1<=100
 gl:1<=(t.2.2.2.2.2.2.2.2.2.1.length:Int)/\(t.2.2.2.2.2.2.2.2.2.1.length:Int)<=8
 gr:∀ g∈t.2.2.2.2.2.2.2.2.2.1,1<=g/\g<=1000
theorem zoS {t:Train}:trB t=true↔zkC t:=by
 unfold trB;simp only [Bool.and_eq_true,zI,List.all_eq_true];constructor
 . rintro ⟨⟨⟨⟨⟨⟨⟨⟨⟨a,b⟩,c⟩,d⟩,e⟩,f⟩,g⟩,h⟩,i⟩,j,k⟩
   exact ⟨a,b,c,d,e,f,g,h,i,j,k⟩
 . rintro ⟨a,b,c,d,e,f,g,h,i,j,k⟩
   exact ⟨⟨⟨⟨⟨⟨⟨⟨⟨a,b⟩,c⟩,d⟩,e⟩,f⟩,g⟩,h⟩,i⟩,j,k⟩
end Go.Ai.Sx
/- Loops,told step by step. -/
namespace Go.Ai.Sx
open Option renaming bind->Zb,bind_some->Zs
def Lp {σ τ:Type} (f:σ->Option (σ⊕τ)) (N:Nat) (s:σ) (t:τ):Prop:=iter f (N+1) s=some t
theorem Lp.done {σ τ:Type} {f:σ->Option (σ⊕τ)} {N:Nat} {s:σ} {t:τ} (h:f s=some (.inr t)):Lp f N s t:=by
 unfold Lp;simp only [iter,h]
theorem Lp.step {σ τ:Type} {f:σ->Option (σ⊕τ)} {N:Nat} {s s':σ} {t:τ} (h:f s=some (.inl s')) (h2:Lp f N s' t):Lp f (N+1) s t:=by
 unfold Lp at *
 rw [iter,h];exact h2
theorem zny {σ τ:Type} {f:σ->Option (σ⊕τ)}:∀ {n m:Nat} {s:σ} {t:τ},n<=m->iter f n s=some t->iter f m s=some t
 | 0,_,_,_,_,h=>by cases h
 | n+1,0,_,_,hm,_=>by omega
 | n+1,m+1,s,t,hm,h=>by
  rw [iter] at h ⊢;cases hs:f s with
  | none=>rw [hs] at h; cases h
  | some r=>
   rw [hs] at h;cases r with
   | inl s'=>exact zny (n:=n) (by omega) h
   | inr t'=>exact h
theorem Lp.big {σ τ:Type} {f:σ->Option (σ⊕τ)} {N:Nat} {s:σ} {t:τ} (h:Lp f N s t) (hN:N<big):iter f big s=some t:=zny (by omega) h
def ze2 {A β τ:Type} (st:Nat->β->A->β⊕τ) (fin:β->τ):List A->Nat->β->τ
 | [],_,b=>fin b
 | a::l,i,b=>match st i b a with
  | .inl b'=>ze2 st fin l (i+1) b'
  | .inr t=>t
theorem zcE {A β σ τ:Type} {f:σ->Option (σ⊕τ)} (l:List A) (mk:Nat->β->σ) (st:Nat->β->A->β⊕τ) (fin:β->τ) (I:Nat->β->Prop) (b0:β) {s0:σ} (hs:mk 0 b0=s0) (hl:l.length<=9223372036854775807) (h0:I 0 b0)
    (hf:∀ (i:Nat) (h:i<l.length) (b:β),I i b->f (mk i b)=some (match st i b l[i] with | .inl b'=>.inl (mk (i+1) b') | .inr t=>.inr t)/\∀ b',st i b l[i]=.inl b'->I (i+1) b')
    (he:∀ b,I l.length b->f (mk l.length b)=some (.inr (fin b))):iter f big s0=some (ze2 st fin l 0 b0):=by
  subst hs;have key:∀ (k i:Nat) (b:β),i+k=l.length->I i b->Lp f k (mk i b) (ze2 st fin (l.drop i) i b):=by
    intro k;induction k with
    | zero=>
      intro i b hi hb;have:i=l.length:=by omega
      subst this;rw [List.drop_length];exact Lp.done (he b hb)
    | succ k ih=>
      intro i b hi hb;have hlt:i<l.length:=by omega
      obtain ⟨h1,h2⟩:=hf i hlt b hb;rw [List.drop_eq_getElem_cons hlt,ze2];cases hst:st i b l[i] with
      | inl b'=>
        rw [hst] at h1;exact Lp.step h1 (ih (i+1) b' (by omega) (h2 b' hst))
      | inr t=>
        rw [hst] at h1;exact Lp.done h1
  have:=key l.length 0 b0 (by omega) h0;rw [List.drop_zero] at this;exact this.big (by simp only [Sx.big]; omega)
theorem zkh {A β τ:Type} (g:Nat->β->A->β) (fin:β->τ):∀ (l:List A) (i:Nat) (b:β),ze2 (λi b a=>(.inl (g i b a):β⊕τ)) fin l i b=fin ((l.zipIdx i).foldl (λb x=>g x.2 b x.1) b)
 | [],i,b=>rfl
 | a::l,i,b=>by
  rw [ze2];exact (zkh g fin l (i+1) (g i b a)).trans (by rw [List.zipIdx_cons,List.foldl_cons])
theorem zfd {A β τ:Type} (g:β->A->β) (fin:β->τ):∀ (l:List A) (i:Nat) (b:β),ze2 (λ_ b a=>(.inl (g b a):β⊕τ)) fin l i b=fin (l.foldl g b)
 | [],i,b=>rfl
 | a::l,i,b=>by
  rw [ze2];exact (zfd g fin l (i+1) (g b a)).trans (by rw [List.foldl_cons])
theorem zF {A:Type} {l:List A} {i:Nat} (h:i<l.length):decide ((i:Int)<zm l)=true:=decide_eq_true (by rw [zp]; omega)
theorem zG {A:Type} {l:List A}:decide ((l.length:Int)<zm l)=false:=decide_eq_false (by rw [zp]; omega)
theorem zy {i:Nat} (h:i<9223372036854775807):w64 ((i:Int)+1)=((i+1:Nat):Int):=by rw [zh (by omega) (by omega)]; omega
theorem zbn {σ τ:Type} {f:σ->Option (σ⊕τ)} (emb:Nat->σ) (N:Nat) (p:Nat->Bool) (r0 r1:τ) {s0:σ} (h0:emb 0=s0) (hN:N<big) (hf:∀ i:Nat,i<N->f (emb i)=some (if p i then .inl (emb (i+1)) else .inr r0)) (he:f (emb N)=some (.inr r1)) :
    iter f big s0=some (if (List.range N).all p then r1 else r0):=by
  subst h0;have key:∀ k n i:Nat,i+k=N->k<n->iter f n (emb i)=some (if (List.range' i k).all p then r1 else r0):=by
    intro k;induction k with
    | zero=>
      intro n i hi hn;obtain ⟨n,rfl⟩:∃ q,n=q+1:=⟨n-1,by omega⟩;have:i=N:=by omega
      subst this;simp only [iter,he];simp
    | succ k ih=>
      intro n i hi hn;obtain ⟨n,rfl⟩:∃ q,n=q+1:=⟨n-1,by omega⟩;simp only [iter,hf i (by omega),List.range'_succ,List.all_cons];cases hg:p i with
      | true=>
        simp only [if_true,Bool.true_and];exact ih n (i+1) (by omega) (by omega)
      | false=>rfl
  have:=key N big 0 (by omega) hN;rw [List.range_eq_range'];exact this
end Go.Ai.Sx
/- Motion: a step,in plain numbers. -/
namespace Go.Ai.Sx
open Option renaming bind->Zb,bind_some->Zs
theorem zy2 {A:Type} (a b c e:A):idx [a,b,c,e] 2=some c:=rfl
theorem zy3 {A:Type} (a b c e:A):idx [a,b,c,e] 3=some e:=rfl
theorem zck {a b A B:Int} (ha:0<=a/\a<=A) (hb:0<=b/\b<=B):0<=a*b/\a*b<=A*B:=⟨Int.mul_nonneg ha.1 hb.1,Int.mul_le_mul ha.2 hb.2 hb.1 (by omega)⟩
theorem zse {a b A B:Int} (ha:0<=a/\a<=A) (hb:-B<=b/\b<=B):-(A*B)<=a*b/\a*b<=A*B:=by
 by_cases h:0<=b
 . have:=zck ha ⟨h,hb.2⟩;omega
 . have:=zck (b:=-b) (B:=B) ha ⟨by omega,by omega⟩;rw [Int.mul_neg] at this;omega
theorem zbV {a b:Int} (ha:0<=a/\a<=9223372036854775807) (hb:0<b):zc2 .i64 a b=some (a/b):=by
 unfold zc2;rw [if_neg (by omega),Int.tdiv_eq_ediv_of_nonneg ha.1];have h1:0<=a/b:=Int.ediv_nonneg ha.1 (by omega);have h2:a/b<=a:=Int.ediv_le_self _ ha.1;exact congrArg some (zh (by omega) (by omega))
theorem zki {a b A:Int} (ha:0<=a/\a<=A*b) (hb:0<b):0<=a/b/\a/b<=A:=
 ⟨Int.ediv_nonneg ha.1 (by omega),by
  have:=Int.ediv_le_ediv hb ha.2;rwa [Int.mul_ediv_cancel _ (by omega)] at this⟩
theorem zxv {a A:Int} {b:Int} (hb:0<b) (ha:-(A*b)<=a/\a<=A*b):-A<=a.tdiv b/\a.tdiv b<=A:=by
 by_cases h:0<=a
 . rw [Int.tdiv_eq_ediv_of_nonneg h];have:=zki (A:=A) ⟨h,ha.2⟩ hb;omega
 . have e:a.tdiv b=-((-a).tdiv b):=by rw [Int.neg_tdiv,Int.neg_neg]
   rw [e,Int.tdiv_eq_ediv_of_nonneg (by omega)];have:=zki (a:=-a) (A:=A) ⟨by omega,by omega⟩ hb;omega
section
variable (t:Train) (st:Int)
def zvK:Int:=t.2.2.2.2.2.2.2.2.2.1.getD st.toNat 0*t.1*981/100000
def zec (v d:Int):Int:=if d<=0 then 0 else if v>0 then min (min (t.2.2.2.1*d/4) (zvK t st)) (1000*t.2.2.2.2.2.1/v) else min (t.2.2.2.1*d/4) (zvK t st)
def zb8 (d:Int):Int:=if d>=0 then 0 else min (t.2.2.2.2.1*(-d)/4) (zvK t st)
def zfu (v:Int):Int:=t.2.2.2.2.2.2.1+t.2.2.2.2.2.2.2.1*v/1000
def ze3 (s:Int):Int:=(t.1*s*981).tdiv 100000
def zgf (v d s:Int):Int:=zec t st v d-zb8 t st d-zfu t v-ze3 t s
end
structure zBb (t:Train) (st v d s:Int):Prop where
 st:0<=st/\st<t.2.2.2.2.2.2.2.2.2.1.length
 v:0<=v/\v<=25000
 d:-4<=d/\d<=4
 s:-120<=s/\s<=120
section
variable {t:Train} {st v d s:Int} (ht:zkC t) (h:zBb t st v d s)
include ht h
theorem zxw:1<=t.2.2.2.2.2.2.2.2.2.1.getD st.toNat 0/\t.2.2.2.2.2.2.2.2.2.1.getD st.toNat 0<=1000:=by
 have h1:=h.st;have hlt:st.toNat<t.2.2.2.2.2.2.2.2.2.1.length:=by omega
 have:t.2.2.2.2.2.2.2.2.2.1.getD st.toNat 0=t.2.2.2.2.2.2.2.2.2.1[st.toNat]:=by simp [List.getD,hlt]
 rw [this];exact ht.gr _ (List.getElem_mem hlt)
theorem zxx:za4 (t,st,())=some (zvK t st)/\zc2 .i64 (w64 (w64 (t.2.2.2.2.2.2.2.2.2.1.getD st.toNat 0*t.1)*981)) 100000=some (zvK t st)/\0<=zvK t st/\zvK t st<=784800:=by
 have h1:=h.st;have hg:=zxw ht h;have hm:=ht.m;have b1:=zck (a:=t.2.2.2.2.2.2.2.2.2.1.getD st.toNat 0) (b:=t.1) (A:=1000) (B:=80000) ⟨by omega,hg.2⟩ ⟨by omega,hm.2⟩;have e1:zc2 .i64 (w64 (w64 (t.2.2.2.2.2.2.2.2.2.1.getD st.toNat 0*t.1)*981)) 100000=some (zvK t st):=by
  rw [zh (n:=t.2.2.2.2.2.2.2.2.2.1.getD st.toNat 0*t.1) (by omega) (by omega),zh (by omega) (by omega),zbV (by omega) (by omega)];rfl
 refine ⟨?_,e1,zki (A:=784800) ⟨by omega,by omega⟩ (by omega)⟩;unfold za4;simp only [];rw [zbg (d:=0) h1.1 h1.2,Zs,e1,Zs]
theorem zy4 (hd:0<d):zc2 .i64 (w64 (t.2.2.2.1*d)) 4=some (t.2.2.2.1*d/4)/\0<=t.2.2.2.1*d/4/\t.2.2.2.1*d/4<=200000:=by
 have h1:=h.d;have b1:=zck (a:=t.2.2.2.1) (b:=d) (A:=200000) (B:=4) ⟨by have:=ht.ef; omega,ht.ef.2⟩ ⟨by omega,h1.2⟩;refine ⟨?_,zki (A:=200000) ⟨by omega,by omega⟩ (by omega)⟩;rw [zh (by omega) (by omega),zbV (by omega) (by omega)]
theorem zy5 (hd:d<0):zc2 .i64 (w64 (t.2.2.2.2.1*w64 (0-d))) 4=some (t.2.2.2.2.1*(-d)/4)/\0<=t.2.2.2.2.1*(-d)/4/\t.2.2.2.2.1*(-d)/4<=200000:=by
 have h1:=h.d;have b1:=zck (a:=t.2.2.2.2.1) (b:=-d) (A:=200000) (B:=4) ⟨by have:=ht.br; omega,ht.br.2⟩ ⟨by omega,by omega⟩;refine ⟨?_,zki (A:=200000) ⟨by omega,by omega⟩ (by omega)⟩;rw [zh (n:=0-d) (by omega) (by omega),show (0:Int)-d=-d by omega,zh (by omega) (by omega),zbV (by omega) (by omega)]
theorem zy6 (hv:0<v):zc2 .i64 (w64 (1000*t.2.2.2.2.2.1)) v=some (1000*t.2.2.2.2.2.1/v)/\0<=1000*t.2.2.2.2.2.1/v:=by
 have _:=h;have:=ht.po;refine ⟨?_,Int.ediv_nonneg (by omega) (by omega)⟩;rw [zh (by omega) (by omega),zbV (by omega) (by omega)]
theorem znz:zaU (t,st,()) v d s=some (zec t st v d)/\0<=zec t st v d/\zec t st v d<=200000:=by
 obtain ⟨a1,_,a2,a3⟩:=zxx ht h;unfold zaU zec;by_cases hd:d<=0
 . rw [decide_eq_true hd,if_pos hd];exact ⟨rfl,by omega,by omega⟩
 . obtain ⟨e1,e2,e3⟩:=zy4 ht h (by omega);rw [decide_eq_false hd,if_neg hd,cond_false];simp only [];rw [e1,Zs,a1,Zs];by_cases hv:v>0
   . obtain ⟨p1,p2⟩:=zy6 ht h hv;rw [decide_eq_true hv,if_pos hv,cond_true,p1,Zs];exact ⟨rfl,by omega,by omega⟩
   . rw [decide_eq_false hv,if_neg hv];exact ⟨rfl,by omega,by omega⟩
theorem zkj:zaM (t,st,()) v d s=some (zb8 t st d)/\0<=zb8 t st d/\zb8 t st d<=200000:=by
 obtain ⟨a1,_,a2,a3⟩:=zxx ht h;unfold zaM zb8;by_cases hd:d>=0
 . rw [decide_eq_true hd,if_pos hd];exact ⟨rfl,by omega,by omega⟩
 . obtain ⟨e1,e2,e3⟩:=zy5 ht h (by omega);rw [decide_eq_false hd,if_neg hd,cond_false];simp only [];rw [e1,Zs,a1,Zs];exact ⟨rfl,by omega,by omega⟩
theorem zsf:zc2 .i64 (w64 (t.2.2.2.2.2.2.2.1*v)) 1000=some (t.2.2.2.2.2.2.2.1*v/1000)/\w64 (t.2.2.2.2.2.2.1+t.2.2.2.2.2.2.2.1*v/1000)=zfu t v/\0<=zfu t v/\zfu t v<=350000:=by
 have b1:=zck (a:=t.2.2.2.2.2.2.2.1) (b:=v) (A:=10000) (B:=25000) ht.ri h.v;have b2:=zki (a:=t.2.2.2.2.2.2.2.1*v) (A:=250000) (b:=1000) ⟨by omega,by omega⟩ (by omega);have b3:=ht.re;unfold zfu;refine ⟨?_,zh (by omega) (by omega),by omega,by omega⟩;rw [zh (by omega) (by omega),zbV (by omega) (by omega)]
theorem zy7:zbr (t,st,()) v d s=some (zfu t v):=by
 obtain ⟨e1,e2,_⟩:=zsf ht h;unfold zbr;simp only [];rw [e1,Zs,e2]
theorem zsg:zc2 .i64 (w64 (w64 (t.1*s)*981)) 100000=some (ze3 t s)/\-94176<=ze3 t s/\ze3 t s<=94176:=by
 have hs:=h.s;have b1:=zse (a:=t.1) (b:=s) (A:=80000) (B:=120) ⟨by have:=ht.m; omega,ht.m.2⟩ ⟨by omega,by omega⟩;have b2:-94176<=ze3 t s/\ze3 t s<=94176:=zxv (a:=t.1*s*981) (A:=94176) (b:=100000) (by omega) ⟨by omega,by omega⟩;refine ⟨?_,b2⟩;rw [zh (n:=t.1*s) (by omega) (by omega),zh (by omega) (by omega)];unfold zc2;rw [if_neg (by omega)];show some (w64 (ze3 t s))=some (ze3 t s);rw [zh (by omega) (by omega)]
theorem zy8:zbs (t,st,()) v d s=some (ze3 t s):=by
 unfold zbs;simp only [];rw [(zsg ht h).1,Zs]
theorem zAu:zcg (t,st,()) v d s=some [zec t st v d,zb8 t st d,zfu t v,ze3 t s]:=by
 unfold zcg;have hL:Lp (λs11:Int×List Int=>
  cond (decide (s11.1<4)) (Zb (idx ([(λx=>zaU (t,st,()) x.1 x.2.1 x.2.2),(λx=>zaM (t,st,()) x.1 x.2.1 x.2.2),(λx=>zbr (t,st,()) x.1 x.2.1 x.2.2),(λx=>zbs (t,st,()) x.1 x.2.1 x.2.2)]:(List ((Int×Int×Int)->Option (Int)))) s11.1) λx14=>
  Zb (x14 (v,d,s)) λy15=>
  Zb (idx s11.2 s11.1) λx16=>
  some (Sum.inl ((w64 (s11.1+1)),(s11.2).set (Int.toNat s11.1) y15))) (some (Sum.inr s11.2))) 4 (0,List.replicate 4 (0:Int)) [zec t st v d,zb8 t st d,zfu t v,ze3 t s]:=by
  refine Lp.step (s':=(1,[zec t st v d,0,0,0])) ?_ (Lp.step (s':=(2,[zec t st v d,zb8 t st d,0,0])) ?_ (Lp.step (s':=(3,[zec t st v d,zb8 t st d,zfu t v,0])) ?_ (Lp.step (s':=(4,[zec t st v d,zb8 t st d,zfu t v,ze3 t s])) ?_ (Lp.done ?_))))
  . show Zb (zaU (t,st,()) v d s) _=_;rw [(znz ht h).1]; rfl
  . show Zb (zaM (t,st,()) v d s) _=_;rw [(zkj ht h).1]; rfl
  . simp only [decide_eq_true (show (2:Int)<4 by omega),cond_true,zy2,Zs,zy7 ht h];rfl
  . simp only [decide_eq_true (show (3:Int)<4 by omega),cond_true,zy3,Zs,zy8 ht h];rfl
  . rfl
 rw [hL.big (by simp only [big]; omega)];rfl
theorem zpH:zdz t v d s st=some (zec t st v d,zb8 t st d,zfu t v,ze3 t s):=by
 obtain ⟨_,a1,a2,a3⟩:=zxx ht h;obtain ⟨d1,d2,_⟩:=zsf ht h;have h1:=(zsg ht h).1;have hst:=h.st;unfold zdz zec zb8;rw [zbg (d:=0) hst.1 hst.2,Zs,a1,Zs];by_cases hd:d<=0
 . rw [decide_eq_false (show ¬ d>0 by omega),if_pos hd,cond_false];by_cases hd2:d>=0
   . rw [decide_eq_false (show ¬ d<0 by omega),if_pos hd2,cond_false,d1,Zs,h1,Zs,d2]
   . rw [decide_eq_true (show d<0 by omega),if_neg hd2,cond_true,(zy5 ht h (by omega)).1,Zs,d1,Zs,h1,Zs,d2]
 . rw [decide_eq_true (show d>0 by omega),if_neg hd,cond_true,(zy4 ht h (by omega)).1,Zs,if_pos (show d>=0 by omega)];by_cases hv:v>0
   . rw [decide_eq_true hv,if_pos hv,cond_true,(zy6 ht h hv).1,Zs,decide_eq_false (show ¬ d<0 by omega),cond_false,d1,Zs,h1,Zs,d2]
   . rw [decide_eq_false hv,if_neg hv,cond_false,decide_eq_false (show ¬ d<0 by omega),cond_false,d1,Zs,h1,Zs,d2]
end
def qS (t:Train) (st:Int) (x:zd) (d s:Int):Int:=x.1+100*zgf t st (x.1/t.1) d s
def zjd (t:Train) (st:Int) (x:zd) (d s:Int):Bool:=decide (qS t st x d s<0)||(x.1==0&&decide (zgf t st (x.1/t.1) d s<=0))
def zd9 (t:Train) (st:Int) (x:zd) (d s:Int):zaZ×Bool:=
 if zjd t st x d s then (((0,x.2.1,()),(0,0,0,0,0,x.1*x.1,()),(1000*t.1-1)/(1000*t.1),0,()),true)
 else (((qS t st x d s,x.2.1+qS t st x d s,()),(200*zec t st (x.1/t.1) d*qS t st x d s,200*zb8 t st d*qS t st x d s,200*zfu t (x.1/t.1)*qS t st x d s,200*ze3 t s*qS t st x d s,10000*zgf t st (x.1/t.1) d s*zgf t st (x.1/t.1) d s,0,()),
  (zec t st (x.1/t.1) d*qS t st x d s+1000*t.1-1)/(1000*t.1),zb8 t st d*qS t st x d s*t.2.2.2.2.2.2.2.2.1/(100000*t.1),()),decide (qS t st x d s<=25000*t.1))
structure zpI (t:Train) (x:zd):Prop where
 p:0<=x.1/\x.1<=25000*t.1
 w:0<=x.2.1/\x.2.1<=4000000000000000000
structure zoT (t:Train) (st d s:Int):Prop where
 st:0<=st/\st<t.2.2.2.2.2.2.2.2.2.1.length
 d:-4<=d/\d<=4
 s:-120<=s/\s<=120
theorem zoT.v {t:Train} {st d s:Int} (ht:zkC t) (h:zoT t st d s) {x:zd} (hx:zpI t x):zBb t st (x.1/t.1) d s:=
 ⟨h.st,zki ⟨hx.p.1,hx.p.2⟩ (by have:=ht.m; omega),h.d,h.s⟩
section
variable {t:Train} {st d s:Int} {x:zd} (ht:zkC t) (h:zoT t st d s) (hx:zpI t x)
include ht h hx
theorem ziI:za9 (t,st,()) x=some (x.1/t.1)/\zc2 .i64 x.1 t.1=some (x.1/t.1):=by
 have _:=h;have hm:=ht.m;have hp:=hx.p;have e:zc2 .i64 x.1 t.1=some (x.1/t.1):=zbV ⟨hp.1,by omega⟩ (by omega);refine ⟨?_,e⟩;unfold za9;simp only [];rw [e,Zs]
omit h in
theorem zgK (st:Int):zR (t,st,()) x=some (x.2.1/(10*t.1))/\zL t x=some (x.2.1/(10*t.1)):=by
 have hm:=ht.m;have hw:=hx.w;have e:zc2 .i64 x.2.1 (w64 (10*t.1))=some (x.2.1/(10*t.1)):=by
  rw [zh (by omega) (by omega)];exact zbV ⟨hw.1,by omega⟩ (by omega)
 unfold zR zL;simp only [];rw [e,Zs];exact ⟨rfl,rfl⟩
theorem zsh:-644176<=zgf t st (x.1/t.1) d s/\zgf t st (x.1/t.1) d s<=294176:=by
 have h4:=h.v ht hx;have a:=(znz ht h4).2;have b:=(zkj ht h4).2;have c:=(zsf ht h4).2.2;have e:=(zsg ht h4).2;unfold zgf;omega
theorem zAv:qS t st x d s<=2029417600:=by
 have:=zsh ht h hx;have hm:=ht.m;have hp:=hx.p;unfold qS;omega
theorem zpJ:zaq (t,st,()) x d s=some (zd9 t st x d s):=by
 have h4:=h.v ht hx;obtain ⟨a1,a2,a3⟩:=znz ht h4;obtain ⟨b1,b2,b3⟩:=zkj ht h4;obtain ⟨_,_,c2,c3⟩:=zsf ht h4;obtain ⟨_,e2,e3⟩:=zsg ht h4;have hn:=zsh ht h hx;have hq:=zAv ht h hx;have hm:=ht.m;have hb:=ht.ba;have hp:=hx.p;have hw:=hx.w;unfold zaq;rw [(ziI ht h hx).1,Zs,zAu ht h4,Zs];simp only [show ∀ (a b c e:Int),idx [a,b,c,e] 0=some a from λ_ _ _ _=>rfl,show ∀ (a b c e:Int),idx [a,b,c,e] 1=some b from λ_ _ _ _=>rfl,show ∀ (a b c e:Int),idx [a,b,c,e] 2=some c from λ_ _ _ _=>rfl,show ∀ (a b c e:Int),idx [a,b,c,e] 3=some e from λ_ _ _ _=>rfl,Zs];have w1:w64 (w64 (w64 (zec t st (x.1/t.1) d-zb8 t st d)-zfu t (x.1/t.1))-ze3 t s)=zgf t st (x.1/t.1) d s:=by
  unfold zgf;rw [zh (n:=zec t st (x.1/t.1) d-zb8 t st d) (by omega) (by omega),zh (n:=_-zfu t (x.1/t.1)) (by omega) (by omega),zh (by omega) (by omega)]
 have w2:w64 (x.1+w64 (100*zgf t st (x.1/t.1) d s))=qS t st x d s:=by
  unfold qS;rw [zh (n:=100*_) (by omega) (by omega),zh (by omega) (by omega)]
 have w3:w64 (1000*t.1)=1000*t.1:=zh (by omega) (by omega);have w4:w64 (25000*t.1)=25000*t.1:=zh (by omega) (by omega);have w5:w64 (100000*t.1)=100000*t.1:=zh (by omega) (by omega);have w6:w64 (x.1*x.1)=x.1*x.1:=by
  have:=zck (a:=x.1) (b:=x.1) (A:=2000000000) (B:=2000000000) ⟨hp.1,by omega⟩ ⟨hp.1,by omega⟩;exact zh (by omega) (by omega)
 simp only [w1,w2,w3,w4,w5,w6];unfold zd9;have hst:(cond (decide (qS t st x d s<0)) (some true) (cond (x.1==0) (some (decide (zgf t st (x.1/t.1) d s<=0))) (some false)):Option Bool)=some (zjd t st x d s):=by
  unfold zjd;cases decide (qS t st x d s<0)<;>cases (x.1==0)<;>rfl
 rw [hst,Zs];cases hs:zjd t st x d s with
 | true=>
  simp only [cond_true,if_true,Int.mul_zero,Int.zero_mul,Int.add_zero,show w64 0=0 from rfl];rw [zh (n:=(0:Int)+1000*t.1) (by omega) (by omega),Int.zero_add,zh (n:=1000*t.1-1) (by omega) (by omega),zbV (by omega) (by omega),Zs,zbV (by omega) (by omega),Zs,zh (n:=x.2.1) (by omega) (by omega),decide_eq_true (by omega),Int.zero_ediv]
 | false=>
  have hq0:0<=qS t st x d s:=by
   unfold zjd at hs;simp only [Bool.or_eq_false_iff,decide_eq_false_iff_not] at hs;omega
  have m1:=zck (a:=zec t st (x.1/t.1) d) (b:=qS t st x d s) ⟨a2,a3⟩ ⟨hq0,hq⟩;have m2:=zck (a:=zb8 t st d) (b:=qS t st x d s) ⟨b2,b3⟩ ⟨hq0,hq⟩;have m3:=zck (a:=zfu t (x.1/t.1)) (b:=qS t st x d s) ⟨c2,c3⟩ ⟨hq0,hq⟩;have m4:=zse (a:=qS t st x d s) (b:=ze3 t s) (B:=94176) ⟨hq0,hq⟩ ⟨e2,e3⟩;rw [Int.mul_comm (qS t st x d s) (ze3 t s)] at m4;have m5:=zck (a:=zb8 t st d*qS t st x d s) (b:=t.2.2.2.2.2.2.2.2.1) ⟨m2.1,m2.2⟩ hb;have m6:-414962718976000<=zgf t st (x.1/t.1) d s*zgf t st (x.1/t.1) d s/\zgf t st (x.1/t.1) d s*zgf t st (x.1/t.1) d s<=414962718976000:=by
   by_cases q:0<=zgf t st (x.1/t.1) d s
   ·have:=zck (a:=zgf t st (x.1/t.1) d s) (b:=zgf t st (x.1/t.1) d s) (A:=644176) (B:=644176) ⟨q,by omega⟩ ⟨q,by omega⟩;omega
   ·have:=zck (a:=-zgf t st (x.1/t.1) d s) (b:=-zgf t st (x.1/t.1) d s) (A:=644176) (B:=644176) ⟨by omega,by omega⟩ ⟨by omega,by omega⟩;rw [Int.neg_mul_neg] at this;omega
  simp only [cond_false,Bool.false_eq_true,if_false];rw [zh (n:=zec t st (x.1/t.1) d*qS t st x d s) (by omega) (by omega),zh (n:=_+1000*t.1) (by omega) (by omega),zh (n:=_-1) (by omega) (by omega),zbV (by omega) (by omega),Zs,
   zh (n:=zb8 t st d*qS t st x d s) (by omega) (by omega),zh (n:=zb8 t st d*qS t st x d s*t.2.2.2.2.2.2.2.2.1) (by omega) (by omega),zbV (by omega) (by omega),Zs,
   zh (n:=x.2.1+_) (by omega) (by omega),zh (n:=200*zec t st (x.1/t.1) d) (by omega) (by omega),zh (n:=200*zb8 t st d) (by omega) (by omega),zh (n:=200*zfu t (x.1/t.1)) (by omega) (by omega),zh (n:=200*ze3 t s) (by omega) (by omega),zh (n:=10000*zgf t st (x.1/t.1) d s) (by omega) (by omega),
   zh (n:=200*zec t st (x.1/t.1) d*qS t st x d s) (by rw [Int.mul_assoc]; omega) (by rw [Int.mul_assoc]; omega),zh (n:=200*zb8 t st d*qS t st x d s) (by rw [Int.mul_assoc]; omega) (by rw [Int.mul_assoc]; omega),zh (n:=200*zfu t (x.1/t.1)*qS t st x d s) (by rw [Int.mul_assoc]; omega) (by rw [Int.mul_assoc]; omega),zh (n:=200*ze3 t s*qS t st x d s) (by rw [Int.mul_assoc]; omega) (by rw [Int.mul_assoc]; omega),zh (n:=10000*zgf t st (x.1/t.1) d s*zgf t st (x.1/t.1) d s) (by rw [Int.mul_assoc]; omega) (by rw [Int.mul_assoc]; omega)]
end
end Go.Ai.Sx
/- Motion: couples. -/
namespace Go.Ai.Sx
open Option renaming bind->Zb,bind_some->Zs
section
variable {a b:Train} (ha:zkC a) (hb:zkC b)
include ha hb
end
end Go.Ai.Sx
/- Motion: braking. -/
namespace Go.Ai.Sx
open Option renaming bind->Zb,bind_some->Zs
def brk (t:Train) (st:Int) (sl:zd->Int):Nat->zd->List zd
 | 0,_=>[]
 | n+1,x=>if x.1=0 then [] else if (zd9 t st x (-4) (sl x)).2 then (zd9 t st x (-4) (sl x)).1.1::brk t st sl n (zd9 t st x (-4) (sl x)).1.1 else []
def zmf {σ τ X:Type} (g:σ->X->σ⊕τ):σ->List X->σ⊕τ
 | s,[]=>.inl s
 | s,y::l=>match g s y with
  | .inl s'=>zmf g s' l
  | .inr t=>.inr t
theorem zgL {t:Train} {st d s:Int} {x:zd} (ht:zkC t) (h:zoT t st d s) (hx:0<=x.1/\x.1<=25000*t.1) (hw:0<=x.2.1/\x.2.1<=4000000000000000000) (hok:(zd9 t st x d s).2=true) :
 (0<=(zd9 t st x d s).1.1.1/\(zd9 t st x d s).1.1.1<=25000*t.1)/\(zd9 t st x d s).1.1.2.1=x.2.1+(zd9 t st x d s).1.1.1:=by
 have hm:=ht.m;unfold zd9 at *
 split
 . simp only []; omega
 . rename_i hs;rw [if_neg hs] at hok;have hok:qS t st x d s<=25000*t.1:=of_decide_eq_true hok;unfold zjd at hs;simp only [Bool.or_eq_true,decide_eq_true_eq,not_or] at hs;exact ⟨⟨by show 0<=qS t st x d s; omega,hok⟩,rfl⟩
theorem zoU {σ τ:Type} {t:Train} {st:Int} {sl:zd->Int} {f:zd->Option Int} {step:σ->zd->Option (σ⊕τ)} {g:σ->zd->σ⊕τ} {W:Int} (ht:zkC t) (hst:0<=st/\st<t.2.2.2.2.2.2.2.2.2.1.length) (hW:W<=4000000000000000000)
    (hf:∀ y:zd,0<=y.1/\y.1<=25000*t.1->0<=y.2.1/\y.2.1<=W->f y=some (sl y)/\-120<=sl y/\sl y<=120)
    (hg:∀ s (y:zd),0<=y.1/\y.1<=25000*t.1->0<=y.2.1/\y.2.1<=W->step s y=some (g s y))
    (s0:σ) (x:zd) (hx:0<=x.1/\x.1<=25000*t.1) (hw:0<=x.2.1/\x.2.1+72000000000000<=W) :
    ∃ z,zaS step s0 x (t,st,()) f=some (zmf g s0 (brk t st sl 36000 x),z):=by
  unfold zaS;have key:∀ (n k:Nat) (s:σ) (p w:Int),k+n=36000->0<=p/\p<=25000*t.1->0<=w/\w+2000000000*n<=W ->
      ∃ T:((σ⊕τ)×Int×Int)⊕((σ⊕τ)×Int×Int),Lp (λs20:Int×(σ⊕τ)×Int×Int=>
cond (decide (s20.1<36000)) (cond (s20.2.2.1==0) (some (.inr (.inr (s20.2.1,s20.2.2.1,s20.2.2.2)))) (Zb (f (s20.2.2.1,s20.2.2.2,())) λy24=>
Zb (zaq (t,st,()) (s20.2.2.1,s20.2.2.2,()) (-4) y24) λy25=>
cond (!y25.2) (some (.inr (.inr (s20.2.1,s20.2.2.1,s20.2.2.2)))) (Zb (goL s20.2.1) λs28=>
Zb (step s28 y25.1.1) λy29=>
cond (!(y29).isLeft) (some (.inr (.inr (y29,y25.1.1.1,y25.1.1.2.1)))) (some (.inl ((w64 (s20.1+1)),y29,y25.1.1.1,y25.1.1.2.1)))))) (some (.inr (.inl (s20.2.1,s20.2.2.1,s20.2.2.2))))) n ((k:Int),.inl s,p,w) T/\(match T with | .inl b=>b.1 | .inr b=>b.1)=zmf g s (brk t st sl n (p,w,())):=by
    intro n;induction n with
    | zero=>
      intro k s p w hk hp hw;have:k=36000:=by omega
      subst this;exact ⟨.inl (.inl s,p,w),Lp.done rfl,rfl⟩
    | succ n ih=>
      intro k s p w hk hp hw;by_cases h0:p=0
      · subst h0;refine ⟨.inr (.inl s,0,w),Lp.done ?_, ?_⟩
        · simp only [decide_eq_true (show (k:Int)<36000 by omega),cond_true]; rfl
        · unfold brk;rw [if_pos (show ((0,w,()):zd).1=0 from rfl)]; rfl
      · obtain ⟨f1,f2,f3⟩:=hf (p,w,()) hp ⟨hw.1,by show w<=W; omega⟩;have hfin:zoT t st (-4) (sl (p,w,())):=⟨hst,by omega,⟨f2,f3⟩⟩;have hso:zpI t (p,w,()):=⟨hp,⟨hw.1,by show w<=_; omega⟩⟩;have hp0:(p==0)=false:=by simpa using h0
        have hm:=ht.m;unfold brk;rw [if_neg (show ¬ ((p,w,()):zd).1=0 from h0)];cases hok:(zd9 t st (p,w,()) (-4) (sl (p,w,()))).2 with
        | false=>
          refine ⟨.inr (.inl s,p,w),Lp.done ?_,rfl⟩;simp only [decide_eq_true (show (k:Int)<36000 by omega),cond_true,hp0,cond_false,f1,Zs,zpJ ht hfin hso,hok,Bool.not_false]
        | true=>
          obtain ⟨n1,n2⟩:=zgL ht hfin hp ⟨hw.1,by show w<=_; omega⟩ hok;have hn2:(zd9 t st (p,w,()) (-4) (sl (p,w,()))).1.1.2.1=w+(zd9 t st (p,w,()) (-4) (sl (p,w,()))).1.1.1:=n2;have hgs:=hg s (zd9 t st (p,w,()) (-4) (sl (p,w,()))).1.1 n1 ⟨by omega,by omega⟩;rw [if_pos rfl,zmf];cases hgg:g s (zd9 t st (p,w,()) (-4) (sl (p,w,()))).1.1 with
          | inl s'=>
            obtain ⟨T,h1,h2⟩:=ih (k+1) s' _ _ (by omega) n1 (show 0<=(zd9 t st (p,w,()) (-4) (sl (p,w,()))).1.1.2.1/\(zd9 t st (p,w,()) (-4) (sl (p,w,()))).1.1.2.1+2000000000*(n:Int)<=W by omega);refine ⟨T,Lp.step ?_ h1,h2⟩;simp only [decide_eq_true (show (k:Int)<36000 by omega),cond_true,hp0,cond_false,f1,Zs,zpJ ht hfin hso,hok,Bool.not_true,goL,hgs,hgg,Sum.isLeft];rw [zy (by omega)]
          | inr tt=>
            refine ⟨.inr (.inr tt,(zd9 t st (p,w,()) (-4) (sl (p,w,()))).1.1.1,(zd9 t st (p,w,()) (-4) (sl (p,w,()))).1.1.2.1),Lp.done ?_,rfl⟩;simp only [decide_eq_true (show (k:Int)<36000 by omega),cond_true,hp0,cond_false,f1,Zs,zpJ ht hfin hso,hok,Bool.not_true,goL,hgs,hgg,Sum.isLeft,Bool.not_false]
  obtain ⟨T,h1,h2⟩:=key 36000 0 s0 x.1 x.2.1 (by omega) hx (by omega);rw [show ((0:Nat):Int)=0 from rfl] at h1;rw [h1.big (by simp only [big]; omega),Zs];cases T with
  | inl b=>
    refine ⟨(b.2.1,b.2.2,()), ?_⟩;rw [zaG];simp only at h2;rw [h2]
  | inr b=>
    refine ⟨(b.2.1,b.2.2,()), ?_⟩;rw [zoR];simp only at h2;rw [h2]
def zA (t:Train) (x:zd):Int:=x.2.1/(10*t.1)
section
variable {t:Train} {st s:Int} {x:zd} (ht:zkC t) (hst:0<=st/\st<t.2.2.2.2.2.2.2.2.2.1.length) (hs:-120<=s/\s<=120) (hx:0<=x.1/\x.1<=25000*t.1) (hw:0<=x.2.1/\x.2.1<=1000000000000000000)
include ht hst hs hx hw
end
end Go.Ai.Sx
/- Motion: braking and sight; more grip,a steeper way,less speed. -/
namespace Go.Ai.Sx
open Option renaming bind->Zb,bind_some->Zs
section
variable {t:Train} {st d s:Int} {x:zd} (ht:zkC t) (h:zoT t st d s) (hx:zpI t x)
include ht h hx
theorem zmg:zay t x d s st=some ((zd9 t st x d s).1.1,(zd9 t st x d s).1.2.1,(zd9 t st x d s).2):=by
 have h4:=h.v ht hx;obtain ⟨a1,a2,a3⟩:=znz ht h4;obtain ⟨b1,b2,b3⟩:=zkj ht h4;obtain ⟨_,_,c2,c3⟩:=zsf ht h4;obtain ⟨_,e2,e3⟩:=zsg ht h4;have hn:=zsh ht h hx;have hq:=zAv ht h hx;have hm:=ht.m;have hp:=hx.p;have hw:=hx.w;unfold zay;rw [(ziI ht h hx).2,Zs,zpH ht h4,Zs];simp only [];have w1:w64 (w64 (w64 (zec t st (x.1/t.1) d-zb8 t st d)-zfu t (x.1/t.1))-ze3 t s)=zgf t st (x.1/t.1) d s:=by
  unfold zgf;rw [zh (n:=zec t st (x.1/t.1) d-zb8 t st d) (by omega) (by omega),zh (n:=_-zfu t (x.1/t.1)) (by omega) (by omega),zh (by omega) (by omega)]
 have w2:w64 (x.1+w64 (100*zgf t st (x.1/t.1) d s))=qS t st x d s:=by
  unfold qS;rw [zh (n:=100*_) (by omega) (by omega),zh (by omega) (by omega)]
 have w4:w64 (25000*t.1)=25000*t.1:=zh (by omega) (by omega);have w6:w64 (x.1*x.1)=x.1*x.1:=by
  have:=zck (a:=x.1) (b:=x.1) (A:=2000000000) (B:=2000000000) ⟨hp.1,by omega⟩ ⟨hp.1,by omega⟩;exact zh (by omega) (by omega)
 simp only [w1,w2,w4,w6];unfold zd9;have hst:(cond (decide (qS t st x d s<0)) (some true) (cond (x.1==0) (some (decide (zgf t st (x.1/t.1) d s<=0))) (some false)):Option Bool)=some (zjd t st x d s):=by
  unfold zjd;cases decide (qS t st x d s<0)<;>cases (x.1==0)<;>rfl
 rw [hst,Zs];cases hs:zjd t st x d s with
 | true=>
  simp only [cond_true,if_true,Int.add_zero];rw [zh (n:=x.2.1) (by omega) (by omega),decide_eq_true (by omega)]
 | false=>
  have hq0:0<=qS t st x d s:=by
   unfold zjd at hs;simp only [Bool.or_eq_false_iff,decide_eq_false_iff_not] at hs;omega
  have m1:=zck (a:=zec t st (x.1/t.1) d) (b:=qS t st x d s) ⟨a2,a3⟩ ⟨hq0,hq⟩;have m2:=zck (a:=zb8 t st d) (b:=qS t st x d s) ⟨b2,b3⟩ ⟨hq0,hq⟩;have m3:=zck (a:=zfu t (x.1/t.1)) (b:=qS t st x d s) ⟨c2,c3⟩ ⟨hq0,hq⟩;have m4:=zse (a:=qS t st x d s) (b:=ze3 t s) (B:=94176) ⟨hq0,hq⟩ ⟨e2,e3⟩;rw [Int.mul_comm (qS t st x d s) (ze3 t s)] at m4;have m6:-414962718976000<=zgf t st (x.1/t.1) d s*zgf t st (x.1/t.1) d s/\zgf t st (x.1/t.1) d s*zgf t st (x.1/t.1) d s<=414962718976000:=by
   by_cases q:0<=zgf t st (x.1/t.1) d s
   ·have:=zck (a:=zgf t st (x.1/t.1) d s) (b:=zgf t st (x.1/t.1) d s) (A:=644176) (B:=644176) ⟨q,by omega⟩ ⟨q,by omega⟩;omega
   ·have:=zck (a:=-zgf t st (x.1/t.1) d s) (b:=-zgf t st (x.1/t.1) d s) (A:=644176) (B:=644176) ⟨by omega,by omega⟩ ⟨by omega,by omega⟩;rw [Int.neg_mul_neg] at this;omega
  simp only [cond_false,Bool.false_eq_true,if_false];rw [zh (n:=x.2.1+_) (by omega) (by omega),zh (n:=200*zec t st (x.1/t.1) d) (by omega) (by omega),zh (n:=200*zb8 t st d) (by omega) (by omega),zh (n:=200*zfu t (x.1/t.1)) (by omega) (by omega),zh (n:=200*ze3 t s) (by omega) (by omega),zh (n:=10000*zgf t st (x.1/t.1) d s) (by omega) (by omega),
   zh (n:=200*zec t st (x.1/t.1) d*qS t st x d s) (by rw [Int.mul_assoc]; omega) (by rw [Int.mul_assoc]; omega),zh (n:=200*zb8 t st d*qS t st x d s) (by rw [Int.mul_assoc]; omega) (by rw [Int.mul_assoc]; omega),zh (n:=200*zfu t (x.1/t.1)*qS t st x d s) (by rw [Int.mul_assoc]; omega) (by rw [Int.mul_assoc]; omega),zh (n:=200*ze3 t s*qS t st x d s) (by rw [Int.mul_assoc]; omega) (by rw [Int.mul_assoc]; omega),zh (n:=10000*zgf t st (x.1/t.1) d s*zgf t st (x.1/t.1) d s) (by rw [Int.mul_assoc]; omega) (by rw [Int.mul_assoc]; omega)]
theorem zy9:zbB t x d s st=some ((zd9 t st x d s).1.2.2.1,(zd9 t st x d s).1.2.2.2.1):=by
 have h4:=h.v ht hx;obtain ⟨a1,a2,a3⟩:=znz ht h4;obtain ⟨b1,b2,b3⟩:=zkj ht h4;have hq:=zAv ht h hx;have hm:=ht.m;have hb:=ht.ba;unfold zbB;rw [(ziI ht h hx).2,Zs,zpH ht h4,Zs,zmg ht h hx,Zs];simp only [];have w3:w64 (1000*t.1)=1000*t.1:=zh (by omega) (by omega);have w5:w64 (100000*t.1)=100000*t.1:=zh (by omega) (by omega);rw [w3,w5];unfold zd9;cases hs:zjd t st x d s with
 | true=>
  simp only [if_true,Int.mul_zero,Int.zero_mul,Int.zero_add,show w64 0=0 from rfl];rw [zh (n:=1000*t.1) (by omega) (by omega),zh (n:=1000*t.1-1) (by omega) (by omega),zbV (by omega) (by omega),Zs,zbV (by omega) (by omega),Zs,Int.zero_ediv]
 | false=>
  have hq0:0<=qS t st x d s:=by
   unfold zjd at hs;simp only [Bool.or_eq_false_iff,decide_eq_false_iff_not] at hs;omega
  have m1:=zck (a:=zec t st (x.1/t.1) d) (b:=qS t st x d s) ⟨a2,a3⟩ ⟨hq0,hq⟩;have m2:=zck (a:=zb8 t st d) (b:=qS t st x d s) ⟨b2,b3⟩ ⟨hq0,hq⟩;have m5:=zck (a:=zb8 t st d*qS t st x d s) (b:=t.2.2.2.2.2.2.2.2.1) ⟨m2.1,m2.2⟩ hb;simp only [Bool.false_eq_true,if_false];rw [zh (n:=zec t st (x.1/t.1) d*qS t st x d s) (by omega) (by omega),zh (n:=_+1000*t.1) (by omega) (by omega),zh (n:=_-1) (by omega) (by omega),zbV (by omega) (by omega),Zs,
   zh (n:=zb8 t st d*qS t st x d s) (by omega) (by omega),zh (n:=zb8 t st d*qS t st x d s*t.2.2.2.2.2.2.2.2.1) (by omega) (by omega),zbV (by omega) (by omega),Zs]
end
structure zBw (t:Train) (x:zd) (d s st:Int):Prop where
 tr:zkC t
 p:0<=x.1/\x.1<=25000*t.1
 w:0<=x.2.1/\x.2.1<=10000000000000000
 f:zoT t st d s
theorem wlen {t:Train} (ht:zkC t):w64 (zm t.2.2.2.2.2.2.2.2.2.1-1)=t.2.2.2.2.2.2.2.2.2.1.length-1:=by
 have:=ht.gl;rw [zp,zh (by omega) (by omega)]
theorem zsi (t:Train) (st:Int):zdb t st=some (if trB t&&inB st 0 (t.2.2.2.2.2.2.2.2.2.1.length-1) then (some (t,st,()),true) else (none,false)):=by
 unfold zdb;rw [zuM];cases h:trB t with
 | false=>rfl
 | true=>
  have ht:=zoS.1 h;simp only [if_true,Zs,show ((0:Int)!=0)=false from rfl,cond_false,mwithin,wlen ht,Bool.true_and];cases inB st 0 (t.2.2.2.2.2.2.2.2.2.1.length-1)<;>rfl
end Go.Ai.Sx
/- Motion: the laws of steps and of the ledger. -/
namespace Go.Ai.Sx
open Option renaming bind->Zb,bind_some->Zs
end Go.Ai.Sx
/- Motion: the laws of braking and of sight; more grip,a steeper way,less speed. -/
namespace Go.Ai.Sx
open Option renaming bind->Zb,bind_some->Zs
section
variable {t:Train} {st s:Int} (ht:zkC t) (hst:0<=st/\st<t.2.2.2.2.2.2.2.2.2.1.length) (hs:-120<=s/\s<=120)
include ht hst hs
end
section
variable {t:Train} {st s dist:Int} (ht:zkC t) (hst:0<=st/\st<t.2.2.2.2.2.2.2.2.2.1.length) (hs:-120<=s/\s<=120)
include ht hst hs
end
end Go.Ai.Sx
/- Motion: more grip,a steeper way and less speed make no braking way longer; the chapter's examples. -/
namespace Go.Ai.Sx
open Option renaming bind->Zb,bind_some->Zs
end Go.Ai.Sx
/- The root that math.Sqrt begins with: in range. -/
namespace Go.Ai.Sx
open Option renaming bind->Zb,bind_some->Zs
open Ieee
theorem zoV {n drop:Nat} (neg:Bool):Toward.even.cut neg n drop<=n/(1 <<< min drop (n.log2+2))+1/\n/(1 <<< min drop (n.log2+2))<=Toward.even.cut neg n drop:=by
 unfold Toward.cut;simp only;generalize (decide ((1 <<< min drop (n.log2+2))<2*(n%(1 <<< min drop (n.log2+2))))||(1 <<< min drop (n.log2+2))==2*(n%(1 <<< min drop (n.log2+2)))&&n/(1 <<< min drop (n.log2+2))%2==1)=b;cases b<;>simp
theorem zi6 {mag:Nat} {place:Int} (h0:0<mag) (h1:-1000<=place+mag.log2) (h2:place+mag.log2<=1000) :
 ∃ m e,double.read (double.nearest false mag place)=.number false m e/\m<2 ^ 53/\0<m/\place+mag.log2-52<=e/\e<=place+mag.log2-51:=by
 obtain ⟨L,hL⟩:∃ L,L=place+mag.log2:=⟨_,rfl⟩;rw [← hL] at h1 h2 ⊢;have hfb:double.fractionBits=52:=rfl;have hlp:double.leastPlace=-1074:=rfl;have hbi:double.binade=4503599627370496:=rfl;have hir:double.infRung=9218868437227405312:=rfl;have hsw:double.signWeight=9223372036854775808:=rfl;have hlast:max (place+mag.log2-(double.fractionBits:Int)) double.leastPlace=L-52:=by
  rw [hfb,hlp,← hL];omega
 have hm0:mag≠0:=by omega
 have hlo:2 ^ mag.log2<=mag:=Nat.log2_self_le hm0;have hhi:mag<2 ^ (mag.log2+1):=Nat.lt_log2_self
 -- what is kept
 obtain ⟨kept,hk⟩:∃ k,k=Toward.even.cut false (mag <<< (place-(L-52)).toNat) ((L-52)-place).toNat:=⟨_,rfl⟩;have hkb:2 ^ 52<=kept/\kept<=2 ^ 53:=by
  have hc:=zoV (n:=mag <<< (place-(L-52)).toNat) (drop:=((L-52)-place).toNat) false;rw [← hk] at hc;by_cases hp:place<=L-52
  . have e1:(place-(L-52)).toNat=0:=by omega
    have e2:((L-52)-place).toNat=mag.log2-52:=by omega
    rw [e1,Nat.shiftLeft_zero,e2,Nat.min_eq_left (by omega),Nat.one_shiftLeft] at hc;have hq:52<=mag.log2:=by omega
    have hlo':2 ^ 52<=mag/2 ^ (mag.log2-52):=by
     rw [Nat.le_div_iff_mul_le (Nat.two_pow_pos _),← Nat.pow_add];rw [show 52+(mag.log2-52)=mag.log2 by omega];exact hlo
    have hhi':mag/2 ^ (mag.log2-52)<2 ^ 53:=by
     rw [Nat.div_lt_iff_lt_mul (Nat.two_pow_pos _),← Nat.pow_add];rw [show 53+(mag.log2-52)=mag.log2+1 by omega];exact hhi
    omega
  . have e1:(place-(L-52)).toNat=52-mag.log2:=by omega
    have e2:((L-52)-place).toNat=0:=by omega
    rw [e1,e2,Nat.zero_min,Nat.one_shiftLeft,Nat.pow_zero,Nat.div_one,Nat.shiftLeft_eq] at hc;have hlo':2 ^ 52<=mag*2 ^ (52-mag.log2):=by
     have:=Nat.mul_le_mul_right (2 ^ (52-mag.log2)) hlo;rw [← Nat.pow_add,show mag.log2+(52-mag.log2)=52 by omega] at this;exact this
    have hhi':mag*2 ^ (52-mag.log2)<2 ^ 53:=by
     have:=Nat.mul_lt_mul_of_pos_right hhi (Nat.two_pow_pos (52-mag.log2));rw [← Nat.pow_add,show mag.log2+1+(52-mag.log2)=53 by omega] at this;exact this
    omega
 have hn:double.nearest false mag place=(L-52+1074).toNat*4503599627370496+kept:=by
  unfold Format.nearest;rw [if_neg hm0];simp only [hlast];simp only [← hk,hlp,hbi,hir];unfold Format.word;rw [if_neg (by simp),Nat.min_eq_left]
  . rw [show L-52 - -1074=L-52+1074 by omega]
  . omega
 obtain ⟨w,hw⟩:∃ w,w=double.nearest false mag place:=⟨_,rfl⟩;rw [← hw] at hn ⊢;obtain ⟨a,ha⟩:∃ a,a=(L-52+1074).toNat:=⟨_,rfl⟩;rw [← ha] at hn;have haL:(a:Int)=L+1022:=by omega
 unfold Format.read;simp only [hsw,hbi,hir,hlp];have d0:w/9223372036854775808%2=0:=by omega
 have d1:w%9223372036854775808=w:=by omega
 rw [d1,d0,if_neg (by omega),if_pos (by omega)];by_cases hk3:kept=2 ^ 53
 . refine ⟨_,_,rfl,by omega,by omega,by omega,by omega⟩
 . refine ⟨_,_,rfl,by omega,by omega,by omega,by omega⟩
theorem zhs (n:Nat):∀ todo root,root*root<=n->Datum.rootFrom n todo root*Datum.rootFrom n todo root<=n
 | 0,root,h=>h
 | todo+1,root,h=>by
  unfold Datum.rootFrom;simp only;split
  . rename_i q; exact zhs n todo _ q
  . exact zhs n todo _ h
theorem zsj {n:Int} (h0:0<=n) (hn:n<2 ^ 50):∃ r k,FloatKind.f64.format.sqrt (FloatKind.f64.nearest n)=some r/\f2i r=some k/\0<=k/\k<2 ^ 30:=by
 by_cases hz:n=0
 . subst hz;exact ⟨0,0,by decide +kernel,by decide +kernel,by omega,by omega⟩
 have hnn:FloatKind.f64.nearest n=double.nearest false n.natAbs 0:=by
  unfold FloatKind.nearest FloatKind.encode FloatKind.format Format.write;simp only [decide_eq_false (show ¬ n<0 by omega)]
 have hpos:0<n.natAbs:=by omega
 have hlog:n.natAbs.log2<=49:=by
  have:n.natAbs<2 ^ 50:=by omega
  have:=(Nat.log2_lt (by omega:n.natAbs≠0)).2 this;omega
 obtain ⟨m1,e1,hr1,b1,b2,b3,b4⟩:=zi6 (place:=0) hpos (by omega) (by omega);have hlm:m1.log2<=52:=by
  have:=(Nat.log2_lt (by omega:m1≠0)).2 b1;omega
 -- the root
 have hfb:double.fractionBits=52:=rfl;obtain ⟨mag,place,hroot,c0,c1,c2⟩:∃ mag place,(Datum.number false m1 e1).root (double.fractionBits+2)=some (.number false mag place)/\0<mag/\-1000<=place+(mag.log2:Int)/\place+(mag.log2:Int)<=27:=by
  unfold Datum.root;simp only [hfb];rw [if_neg (by omega),if_neg (by simp)];obtain ⟨more,hmore⟩:∃ more,more=2*(52+2)-m1.log2+((e1-(2*(52+2)-m1.log2:Nat))%2).toNat:=⟨_,rfl⟩;rw [← hmore];have hm2:56<=more/\more<=2*(52+2)-m1.log2+1:=by omega
  obtain ⟨whole,hw⟩:∃ whole,whole=Datum.rootFrom (m1 <<< more) ((m1 <<< more).log2/2+1) 0:=⟨_,rfl⟩;have hsq:=zhs (m1 <<< more) ((m1 <<< more).log2/2+1) 0 (Nat.zero_le _);rw [← hw] at hsq ⊢;have hb:m1 <<< more<2 ^ 110:=by
   rw [Nat.shiftLeft_eq];have hm:m1<2 ^ (m1.log2+1):=Nat.lt_log2_self;have:=Nat.mul_lt_mul_of_pos_right hm (Nat.two_pow_pos more);rw [← Nat.pow_add] at this;exact Nat.lt_of_lt_of_le this (Nat.pow_le_pow_right (by omega) (by omega))
  have hwb:whole<2 ^ 55:=by
   apply Classical.byContradiction;intro q;have h1:2 ^ 55<=whole:=by omega
   have:=Nat.mul_le_mul h1 h1;rw [← Nat.pow_add] at this;have h2:(2:Nat) ^ (55+55)=2 ^ 110:=rfl;omega
  obtain ⟨dl,hdl⟩:∃ dl,dl=(whole*whole !=m1 <<< more).toNat:=⟨_,rfl⟩;rw [← hdl];have hd1:dl<=1:=by rw [hdl]; cases (whole*whole !=m1 <<< more)<;>simp
  have hp0:0<2*whole+dl:=by
   by_cases q:whole=0
   . have:m1 <<< more≠0:=by rw [Nat.shiftLeft_eq]; have:=Nat.mul_pos b2 (Nat.two_pow_pos more); omega
     have:(whole*whole !=m1 <<< more)=true:=by rw [q]; simp; omega
     rw [hdl,this]; simp
   . omega
  have hl2:(2*whole+dl).log2<=56:=by
   have:=(Nat.log2_lt (by omega:2*whole+dl≠0)).2 (show 2*whole+dl<2 ^ 57 by omega);omega
  exact ⟨_,_,rfl,hp0,by omega,by omega⟩
 obtain ⟨m3,e3,hr3,d1,d2,d3,d4⟩:=zi6 (place:=place) c0 c1 (by omega);refine ⟨double.nearest false mag place,((m3/(1 <<< min (-e3).toNat (m3.log2+2)):Nat):Int), ?_, ?_,Int.natCast_nonneg _, ?_⟩
 . rw [hnn];show ((double.read _).root (double.fractionBits+2)).map double.write=_;rw [hr1,hroot];rfl
 . have hti:(FloatKind.f64.decode (double.nearest false mag place)).toInt .zero=some ((m3/(1 <<< min (-e3).toNat (m3.log2+2)):Nat):Int):=by
    show (double.read _).toInt .zero=_;rw [hr3];unfold Datum.toInt Datum.integral Toward.cut signed;simp only [show e3.toNat=0 by omega,Nat.shiftLeft_zero,Bool.toNat_false,Nat.add_zero];simp
   have hk:m3/(1 <<< min (-e3).toNat (m3.log2+2))<=m3:=Nat.div_le_self _ _;unfold f2i;rw [hti];simp only;generalize m3/(1 <<< min (-e3).toNat (m3.log2+2))=q at hk ⊢;rw [if_pos ⟨by show (-9223372036854775808:Int)<=_; omega,by show _<=(9223372036854775807:Int); omega⟩]
 . have hm3:m3.log2+2>=24\/m3<2 ^ 22:=by
    by_cases q:m3<2 ^ 22
    . exact .inr q
    . left;have:=(Nat.le_log2 (by omega:m3≠0)).2 (show 2 ^ 22<=m3 by omega);omega
   have hk:m3/(1 <<< min (-e3).toNat (m3.log2+2))<=m3:=Nat.div_le_self _ _;rcases hm3 with q | q
   . have hd:24<=min (-e3).toNat (m3.log2+2):=by omega
     have hle:2 ^ 24<=1 <<< min (-e3).toNat (m3.log2+2):=by
      rw [Nat.one_shiftLeft];exact Nat.pow_le_pow_right (by omega) hd
     have:m3/(1 <<< min (-e3).toNat (m3.log2+2))<=m3/2 ^ 24:=Nat.div_le_div_left hle (by omega);generalize m3/(1 <<< min (-e3).toNat (m3.log2+2))=q at this hk ⊢;omega
   . generalize m3/(1 <<< min (-e3).toNat (m3.log2+2))=q at hk ⊢;omega
end Go.Ai.Sx
/- Tracks: roots and distances. -/
namespace Go.Ai.Sx
open Option renaming bind->Zb,bind_some->Zs
def zlr (n r:Int):Prop:=0<=r/\r*r<=n/\n<(r+1)*(r+1)
theorem zuO {a b:Int} (ha:0<=a) (h:a<=b):a*a<=b*b:=Int.mul_le_mul h h ha (by omega)
theorem zlr.uniq {n r q:Int} (h1:zlr n r) (h2:zlr n q):r=q:=by
 rcases Int.lt_trichotomy r q with h | h | h
 . have:=zuO (a:=r+1) (b:=q) (by have:=h1.1; omega) (by omega);have:=h1.2.2;have:=h2.2.1;omega
 . exact h
 . have:=zuO (a:=q+1) (b:=r) (by have:=h2.1; omega) (by omega);have:=h2.2.2;have:=h1.2.1;omega
def bsS:Nat->Int->Int->Int->Int
 | 0,lo,_,_=>lo
 | k+1,lo,hi,n=>if hi-lo>1 then (if (lo+hi)/2*((lo+hi)/2)<=n then bsS k ((lo+hi)/2) hi n else bsS k lo ((lo+hi)/2) n) else lo
def zqC (n:Int):Int:=bsS 60 0 30000000 n
theorem zmh {n:Int}:∀ (k:Nat) (lo hi:Int),0<=lo->lo<hi->hi-lo<=2 ^ k->lo*lo<=n->n<hi*hi->zlr n (bsS k lo hi n)
 | 0,lo,hi,h0,h1,h2,h3,h4=>by
  have:hi=lo+1:=by simp at h2; omega
  subst this;exact ⟨h0,h3,h4⟩
 | k+1,lo,hi,h0,h1,h2,h3,h4=>by
  unfold bsS;split
  . have:(2:Int) ^ (k+1)=2*2 ^ k:=by rw [Int.pow_succ]; omega
    split
    . rename_i hm;exact zmh k _ hi (by omega) (by omega) (by omega) hm h4
    . rename_i hm;exact zmh k lo _ h0 (by omega) (by omega) h3 (by omega)
  . have:hi=lo+1:=by omega
    subst this;exact ⟨h0,h3,h4⟩
theorem zpK {n:Int} (h:0<=n/\n<900000000000000):zlr n (zqC n):=zmh 60 0 30000000 (by omega) (by omega) (by decide) (by omega) (by omega)
theorem zxy {n:Int} (k:Nat):∀ (lo hi:Int),0<=lo->lo<hi->hi<=30000000->hi-lo<=2 ^ k->Lp (λs4:Int×Int=>
cond (decide ((w64 (s4.2-s4.1))>1)) (Zb (zc2 .i64 (w64 (s4.1+s4.2)) 2) λx7=>
cond (decide ((w64 (x7*x7))<=n)) (some (Sum.inl (x7,s4.2))) (some (.inl (s4.1,x7)))) (some (.inr s4.1))) k (lo,hi) (bsS k lo hi n):=by
 induction k with
 | zero=>
  intro lo hi h0 h1 h2 h3;have:hi=lo+1:=by simp at h3; omega
  subst this;refine Lp.done ?_;simp only [];rw [zh (by omega) (by omega),decide_eq_false (by omega)];rfl
 | succ k ih=>
  intro lo hi h0 h1 h2 h3;have:(2:Int) ^ (k+1)=2*2 ^ k:=by rw [Int.pow_succ]; omega
  unfold bsS;by_cases hq:hi-lo>1
  . rw [if_pos hq];have hmb:0<=(lo+hi)/2/\(lo+hi)/2<=30000000:=by omega
    have hsq:=zck hmb hmb;have e0:w64 ((lo+hi)/2*((lo+hi)/2))=(lo+hi)/2*((lo+hi)/2):=zh (by omega) (by omega);by_cases hm:(lo+hi)/2*((lo+hi)/2)<=n
    . rw [if_pos hm];refine Lp.step (s':=((lo+hi)/2,hi)) ?_ (ih _ _ (by omega) (by omega) h2 (by omega));simp only [];rw [zh (n:=hi-lo) (by omega) (by omega),decide_eq_true hq,cond_true,zh (n:=lo+hi) (by omega) (by omega),zbV (by omega) (by omega),Zs,e0,decide_eq_true hm];rfl
    . rw [if_neg hm];refine Lp.step (s':=(lo,(lo+hi)/2)) ?_ (ih _ _ h0 (by omega) (by omega) (by omega));simp only [];rw [zh (n:=hi-lo) (by omega) (by omega),decide_eq_true hq,cond_true,zh (n:=lo+hi) (by omega) (by omega),zbV (by omega) (by omega),Zs,e0,decide_eq_false hm];rfl
  . rw [if_neg hq];refine Lp.done ?_;simp only [];rw [zh (by omega) (by omega),decide_eq_false hq];rfl
theorem zuP (n:Int):zeB n=some (zqC n):=by
 unfold zeB;rw [(zxy (n:=n) 60 0 30000000 (by omega) (by omega) (by omega) (by decide)).big (by simp only [big]; omega)];rfl
theorem znA {n:Int} (h0:0<=n):∀ (k:Nat),k<=2000000000->∃ r:Int,Lp (λs4:Int=>
cond (decide ((w64 (s4*s4))>n)) (some (Sum.inl (w64 (s4-1)))) (some (.inr s4))) k (k:Int) r/\0<=r/\r<=k/\r*r<=n
 | 0,_=>⟨0,Lp.done (by simp only [show w64 (((0:Nat):Int)*((0:Nat):Int))=0 from rfl]; rw [decide_eq_false (by omega)]; rfl),by omega,by omega,by omega⟩
 | k+1,hk=>by
  have hb:0<=((k+1:Nat):Int)/\((k+1:Nat):Int)<=2000000000:=by omega
  have hs:=zck hb hb;have e:w64 (((k+1:Nat):Int)*((k+1:Nat):Int))=((k+1:Nat):Int)*((k+1:Nat):Int):=zh (by omega) (by omega);by_cases hm:((k+1:Nat):Int)*((k+1:Nat):Int)>n
  . obtain ⟨r,h1,h2,h3,h4⟩:=znA h0 k (by omega);refine ⟨r,Lp.step (s':=(k:Int)) ?_ h1,h2,by omega,h4⟩;simp only [e];rw [decide_eq_true hm,cond_true,zh (by omega) (by omega)];congr 2;omega
  . refine ⟨((k+1:Nat):Int),Lp.done ?_,by omega,by omega,by omega⟩;simp only [e];rw [decide_eq_false hm]; rfl
theorem zsk {n:Int} (hn:0<=n/\n<900000000000000):∀ (k:Nat) (x:Int),0<=x->x*x<=n->x+k=30000000->Lp (λs10:Int=>
cond (decide ((w64 ((w64 (s10+1))*(w64 (s10+1))))<=n)) (some (Sum.inl (w64 (s10+1)))) (some (.inr s10))) k x (zqC n)
 | 0,x,h0,h1,h2=>by
  have:x=30000000:=by omega
  subst this;omega
 | k+1,x,h0,h1,h2=>by
  have e1:w64 (x+1)=x+1:=zh (by omega) (by omega);have hb:0<=x+1/\x+1<=30000001:=by omega
  have hs:=zck hb hb;have e2:w64 ((x+1)*(x+1))=(x+1)*(x+1):=zh (by omega) (by omega);by_cases hm:(x+1)*(x+1)<=n
  . refine Lp.step (s':=x+1) ?_ (zsk hn k (x+1) (by omega) hm (by omega));simp only [e1,e2];rw [decide_eq_true hm]; rfl
  . have:x=zqC n:=zlr.uniq ⟨h0,h1,by omega⟩ (zpK hn);rw [← this];refine Lp.done ?_;simp only [e1,e2];rw [decide_eq_false hm]; rfl
theorem zxz {n:Int} (hn:0<=n/\n<900000000000000):zeD n=some (zqC n):=by
 obtain ⟨r,k,h1,h2,h3,h4⟩:=zsj hn.1 (by omega);unfold zeD;rw [h1,Zs,h2,Zs];obtain ⟨q,a1,a2,a3,a4⟩:=znA hn.1 k.toNat (by omega);rw [Int.toNat_of_nonneg h3] at a1;rw [a1.big (by simp only [big]; omega),Zs];have hq:q<30000000:=by
  rcases Int.lt_or_le q 30000000 with h | h
  . exact h
  . have:=zuO (a:=30000000) (b:=q) (by omega) h;omega
 rw [(zsk hn (30000000-q).toNat q a2 a4 (by omega)).big (by simp only [big]; omega)];rfl
def zc1 (s:Spot):Bool:=inB s.1 (-10000000) 10000000&&inB s.2.1 (-10000000) 10000000
theorem twithin (n a b:Int):zN n a b=some (inB n a b):=zfc n a b
theorem zsl (n a b:Int):z4 n a b=some (inB n a b):=zfc n a b
theorem zmi (s:Spot):zcI s=some (zc1 s):=by
 unfold zcI zc1;rw [twithin,twithin];cases inB s.1 (-10000000) 10000000<;>rfl
theorem zpL (s:Spot):zbc s=some (zc1 s):=by
 unfold zbc zc1;rw [zsl,zsl];cases inB s.1 (-10000000) 10000000<;>rfl
def zmj (a b:Spot):Int:=zqC ((a.1-b.1)*(a.1-b.1)+(a.2.1-b.2.1)*(a.2.1-b.2.1))
theorem zza {x:Int} (h:-20000000<=x/\x<=20000000):0<=x*x/\x*x<=400000000000000:=by
 by_cases h0:0<=x
 . exact zck (A:=20000000) (B:=20000000) ⟨h0,h.2⟩ ⟨h0,h.2⟩
 . have:=zck (a:=-x) (b:=-x) (A:=20000000) (B:=20000000) ⟨by omega,by omega⟩ ⟨by omega,by omega⟩;rw [Int.neg_mul_neg] at this;exact this
theorem zsm {a b:Spot} (ha:zc1 a=true) (hb:zc1 b=true):w64 (w64 (w64 (a.1-b.1)*w64 (a.1-b.1))+w64 (w64 (a.2.1-b.2.1)*w64 (a.2.1-b.2.1)))=(a.1-b.1)*(a.1-b.1)+(a.2.1-b.2.1)*(a.2.1-b.2.1)/\0<=(a.1-b.1)*(a.1-b.1)+(a.2.1-b.2.1)*(a.2.1-b.2.1)/\(a.1-b.1)*(a.1-b.1)+(a.2.1-b.2.1)*(a.2.1-b.2.1)<=800000000000000:=by
 unfold zc1 at ha hb;simp only [Bool.and_eq_true,zI] at ha hb;have h1:=zza (x:=a.1-b.1) (by omega);have h2:=zza (x:=a.2.1-b.2.1) (by omega);rw [zh (n:=a.1-b.1) (by omega) (by omega),zh (n:=a.2.1-b.2.1) (by omega) (by omega),zh (n:=(a.1-b.1)*(a.1-b.1)) (by omega) (by omega),zh (n:=(a.2.1-b.2.1)*(a.2.1-b.2.1)) (by omega) (by omega),zh (by omega) (by omega)];exact ⟨rfl,by omega,by omega⟩
theorem zsn {a b:Spot} (ha:zc1 a=true) (hb:zc1 b=true):zcJ a b=some (zmj a b):=by
 obtain ⟨h1,h2,h3⟩:=zsm ha hb;unfold zcJ;rw [h1,zxz ⟨h2,by omega⟩]; rfl
theorem zvL {a b:Spot} (ha:zc1 a=true) (hb:zc1 b=true):zc9 a b=some (zmj a b):=by
 obtain ⟨h1,h2,h3⟩:=zsm ha hb;unfold zc9;rw [h1,zuP]; rfl
theorem zxA {a b:Spot} (ha:zc1 a=true) (hb:zc1 b=true):0<=zmj a b/\zmj a b<=30000000:=by
 obtain ⟨h1,h2,h3⟩:=zsm ha hb;have hr:=zpK (n:=(a.1-b.1)*(a.1-b.1)+(a.2.1-b.2.1)*(a.2.1-b.2.1)) ⟨h2,by omega⟩;refine ⟨hr.1, ?_⟩;rcases Int.lt_or_le (zmj a b) 30000001 with h | h
 . omega
 . have:=zuO (a:=30000001) (b:=zmj a b) (by omega) h;have:=hr.2.1;unfold zmj at *
   omega
end Go.Ai.Sx
/- Tracks: nodes,rails,lines and lengths. -/
namespace Go.Ai.Sx
open Option renaming bind->Zb,bind_some->Zs
def zib (f:Nat->Int):Nat->Nat->Int
 | _,0=>0
 | a,k+1=>f a+zib f (a+1) k
theorem ziJ {f:Nat->Int} {B:Int}:∀ (k a:Nat),(∀ i,a<=i->i<a+k->0<=f i/\f i<=B)->0<=zib f a k/\zib f a k<=B*k
 | 0,a,_=>by simp [zib]
 | k+1,a,h=>by
  have h1:=h a (Nat.le_refl a) (by omega);have h2:=ziJ k (a+1) (λi hi hk=>h i (by omega) (by omega));have:B*((k+1:Nat):Int)=B*k+B:=by rw [show ((k+1:Nat):Int)=(k:Int)+1 by omega,Int.mul_add,Int.mul_one]
  unfold zib;omega
theorem zls {f g:Nat->Int}:∀ (k a:Nat),(∀ i,a<=i->i<a+k->f i=g i)->zib f a k=zib g a k
 | 0,_,_=>rfl
 | k+1,a,h=>by
  unfold zib;rw [h a (Nat.le_refl a) (by omega),zls k (a+1) (λi hi hk=>h i (by omega) (by omega))]
theorem zmk {F:Int×Int->Option ((Int×Int)⊕Int)} {f:Nat->Int} {B:Int} {N:Nat} (hB:0<=B) (hN:N<1000000) (hBN:B*1000000<=4611686018427387904) (hf:∀ i:Nat,i<N->0<=f i/\f i<=B) :
    ∀ (k a:Nat) (s:Int),a+k=N->0<=s->s<=B*a->(∀ (i:Nat) (s:Int),a<=i->i<N->F (s,(i:Int))=some (.inl (w64 (s+f i),w64 ((i:Int)+1))))->(∀ s,F (s,(N:Int))=some (.inr s))->Lp F k (s,(a:Int)) (s+zib f a k)
  | 0,a,s,ha,h0,h1,_,he=>by
    have:a=N:=by omega
    subst this;unfold zib;rw [Int.add_zero];exact Lp.done (he s)
  | k+1,a,s,ha,h0,h1,hF,he=>by
    have h2:=hf a (by omega);have h3:B*((a+1:Nat):Int)=B*a+B:=by rw [show ((a+1:Nat):Int)=(a:Int)+1 by omega,Int.mul_add,Int.mul_one]
    have h4:B*((a+1:Nat):Int)<=B*1000000:=Int.mul_le_mul_of_nonneg_left (by omega) hB;unfold zib;rw [← Int.add_assoc];refine Lp.step (s':=(s+f a,((a+1:Nat):Int))) ?_ (zmk hB hN hBN hf k (a+1) _ (by omega) (by omega) (by omega) (λi s hi hk=>hF i s (by omega) hk) he);rw [hF a s (Nat.le_refl a) (by omega),zh (by omega) (by omega),zy (by omega)]
def N0:zcb:=((0,0,()),0,[],0,())
def S0:Spot:=(0,0,())
def zht (k:Int):Int:=if k=1 then 1 else if k=2 then 2 else if k=3 then 4 else if k=4\/k=5\/k=6 then 3 else 0
def nodeB (n:zcb):Bool:=zc1 n.1&&(zht n.2.1 !=0)&&(zm n.2.2.1==zht n.2.1)&&(if n.2.1=5\/n.2.1=6 then inB n.2.2.2.1 1 2 else n.2.2.2.1==0)
theorem kinds {k:Int} (h1:¬ k<1) (h2:¬ k>6):k=1\/k=2\/k=3\/k=4\/k=5\/k=6:=by omega
theorem zkk {k:Int} (h:k<1\/k>6):zht k=0:=by
 unfold zht;rw [if_neg (by omega),if_neg (by omega),if_neg (by omega),if_neg (by omega)]
theorem zxB (n:zcb):zeC n=some (nodeB n):=by
 unfold zeC nodeB;by_cases h1:n.2.1<1
 ·rw [decide_eq_true h1,zkk (.inl h1)]; simp
 by_cases h2:n.2.1>6
 ·rw [decide_eq_false h1,decide_eq_true h2,zkk (.inr h2)]; simp
 rw [decide_eq_false h1,decide_eq_false h2,zmi];simp only [cond_false,Zs];cases zc1 n.1 with
 | false=>rfl
 | true=>
  simp only [Bool.not_true,cond_false,ze1,Zs,twithin,Bool.true_and];have hi:idx (List.replicate 1 0++[1,2,4,3,3,3]) n.2.1=some (zht n.2.1)/\(zht n.2.1 !=0)=true:=by
   rcases kinds h1 h2 with h | h | h | h | h | h<;>rw [h]<;>exact ⟨rfl,rfl⟩
  rw [hi.1,hi.2,Zs];have hc:(cond (n.2.1==5) (some true) (some (n.2.1==6)):Option Bool)=some (decide (n.2.1=5\/n.2.1=6)):=by
   by_cases h5:n.2.1=5
   ·rw [h5]; rfl
   ·by_cases h6:n.2.1=6
    ·rw [h6]; rfl
    ·have e5:(n.2.1==5)=false:=by simpa using h5
     have e6:(n.2.1==6)=false:=by simpa using h6
     rw [e5,e6,decide_eq_false (by omega)]; rfl
  rw [hc];by_cases hl:zm n.2.2.1=zht n.2.1
  ·have e1:(zm n.2.2.1 !=zht n.2.1)=false:=by rw [bne_eq_false_iff_eq]; exact hl
   have e2:(zm n.2.2.1==zht n.2.1)=true:=by rw [beq_iff_eq]; exact hl
   rw [e1,e2];simp only [cond_false,Zs,Bool.true_and];by_cases h:n.2.1=5\/n.2.1=6
   ·rw [decide_eq_true h,if_pos h]; rfl
   ·rw [decide_eq_false h,if_neg h]; rfl
  ·have e1:(zm n.2.2.1 !=zht n.2.1)=true:=by rw [bne_iff_ne]; exact hl
   have e2:(zm n.2.2.1==zht n.2.1)=false:=by simpa using hl
   rw [e1,e2]; rfl
theorem zuQ (k:Int):zax k=some (zht k):=by
 unfold zax zht;by_cases h1:k=1
 . rw [h1]; rfl
 by_cases h2:k=2
 . rw [h2]; rfl
 by_cases h3:k=3
 . rw [h3]; rfl
 by_cases h4:k=4
 . rw [h4]; rfl
 by_cases h5:k=5
 . rw [h5]; rfl
 by_cases h6:k=6
 . rw [h6]; rfl
 rw [if_neg h1,if_neg h2,if_neg h3,if_neg (by omega)];have e1:(k==1)=false:=by simpa using h1
 have e2:(k==2)=false:=by simpa using h2
 have e3:(k==3)=false:=by simpa using h3
 have e4:(k==4)=false:=by simpa using h4
 have e5:(k==5)=false:=by simpa using h5
 have e6:(k==6)=false:=by simpa using h6
 rw [e1,e2,e3,e4,e5,e6]; rfl
def nd (p:Plan) (i:Int):zcb:=p.1.getD i.toNat N0
def zea (p:Plan) (r:Rail):List Spot:=[(nd p r.1).1]++r.2.2.1++[(nd p r.2.1).1]
theorem zgM (p:Plan) (r:Rail):(zea p r).length=r.2.2.1.length+2:=by unfold zea; simp
theorem zzb {A:Type} (a b c:A):idx [a,b,c] 0=some a:=rfl
theorem zzc {A:Type} (a b c:A):idx [a,b,c] 1=some b:=rfl
theorem zzd {A:Type} (a b c:A):idx [a,b,c] 2=some c:=rfl
theorem zAw {A:Type} (a b c:A):zm [a,b,c]=3:=rfl
theorem zxC {a b:Spot} {s:List Spot} (hs:s.length<=30):zaf [[a],s,[b]]=some ([a]++s++[b]):=by
  unfold zaf;have h1:Lp (λs4:Int×Int=>
cond (decide (s4.2<(zm [[a],s,[b]]))) (Zb (idx [[a],s,[b]] s4.2) λx7=>
cond (decide ((w64 (s4.1+(zm x7)))<0)) (none) (some (Sum.inl ((w64 (s4.1+(zm x7))),(w64 (s4.2+1)))))) (some (.inr s4.1))) 3 (0,0) ((s.length:Int)+2):=by
    refine Lp.step (s':=(1,1)) rfl (Lp.step (s':=(1+(s.length:Int),2)) ?_ (Lp.step (s':=((s.length:Int)+2,3)) ?_ (Lp.done rfl)))
    · show cond (decide (w64 (1+zm s)<0)) _ _=_;rw [zp,zh (by omega) (by omega),decide_eq_false (by omega)];rfl
    · show cond (decide (w64 (1+(s.length:Int)+1)<0)) _ (some (Sum.inl (w64 (1+(s.length:Int)+1),_)))=_;rw [zh (by omega) (by omega),decide_eq_false (by omega),show (1:Int)+s.length+1=s.length+2 by omega];rfl
  rw [h1.big (by simp only [big]; omega),Zs];have hg:zah ((s.length:Int)+2)=some []:=by
    unfold zah;rw [show w64 ((0:Int)-0)=0 from rfl,Int.sub_zero,zh (by omega) (by omega),decide_eq_false (by omega),decide_eq_true (by omega)];simp only [cond_false,cond_true];unfold zrZ;rw [if_pos (by omega),Zs];unfold slz;have:(List.replicate ((s.length:Int)+2).toNat ((0,0,()):Spot)).isEmpty=false:=by
      rw [List.isEmpty_eq_false_iff];intro e;have:=congrArg List.length e;simp at this;omega
    rw [this]; rfl
  rw [hg,Zs];have h2:Lp (λs17:List Spot×Int=>
cond (decide (s17.2<(zm [[a],s,[b]]))) (Zb (idx [[a],s,[b]] s17.2) λx20=>
Zb (zdp 16 s17.1 x20) λx21=>
some (Sum.inl (x21,(w64 (s17.2+1))))) (some (.inr s17.1))) 3 ([],0) ([a]++s++[b]):=by
    refine Lp.step (s':=([a],1)) ?_ (Lp.step (s':=([a]++s,2)) ?_ (Lp.step (s':=([a]++s++[b],3)) ?_ (Lp.done rfl)))
    · simp only [zAw,decide_eq_true (show (0:Int)<3 by omega),cond_true,zzb,Zs];rw [zaF (by simp)]; rfl
    · simp only [zAw,decide_eq_true (show (1:Int)<3 by omega),cond_true,zzc,Zs];rw [zaF (by simp; omega)]; rfl
    · simp only [zAw,decide_eq_true (show (2:Int)<3 by omega),cond_true,zzd,Zs];rw [zaF (by simp; omega)]; rfl
  rw [h2.big (by simp only [big]; omega)]; rfl
structure RIx (p:Plan) (r:Rail):Prop where
 f:0<=r.1/\r.1<p.1.length
 t:0<=r.2.1/\r.2.1<p.1.length
 s:r.2.2.1.length<=30
theorem zso {p:Plan} {r:Rail} (h:RIx p r):zdN p r=some (zea p r):=by
 unfold zdN;rw [zbg (d:=N0) h.f.1 h.f.2,Zs,zbg (d:=N0) h.t.1 h.t.2,Zs,zxC h.s];rfl
def rl0 (p:Plan) (i:Int):Rail:=p.2.1.getD i.toNat (0,0,[],0,0,())
theorem zpM {p:Plan} {i:Int} (hi:0<=i/\i<p.2.1.length) (h:RIx p (rl0 p i)):zc8 p i=some (zea p (rl0 p i)):=by
 unfold zc8;have hs:=h.s;rw [zbg (d:=(0,0,[],0,0,())) hi.1 hi.2,Zs];show Zb (idx p.1 (rl0 p i).1) _=_;rw [zbg (d:=N0) h.f.1 h.f.2,Zs];show Zb (zdp 16 [(nd p (rl0 p i).1).1] (rl0 p i).2.2.1) _=_;rw [zaF (by simp; omega),Zs];show Zb (idx p.1 (rl0 p i).2.1) _=_;rw [zbg (d:=N0) h.t.1 h.t.2,Zs];rw [zaF (by simp; omega)];rfl
def zxD (l:List Spot) (i:Nat):Int:=zmj (l.getD (i-1) S0) (l.getD i S0)
def zxE (l:List Spot):Int:=zib (zxD l) 1 (l.length-1)
theorem zfT {l:List Spot} (h:l.all zc1=true) {i:Nat} (hi:i<l.length):zc1 (l.getD i S0)=true:=by
 have:l.getD i S0=l[i]:=by simp [List.getD,hi]
 rw [this];exact List.all_eq_true.1 h _ (List.getElem_mem hi)
theorem zpN {l:List Spot} (h:l.all zc1=true) (hl:1<=l.length/\l.length<=40) {sp:Spot->Spot->Option Int} (hsp:∀ a b,zc1 a=true->zc1 b=true->sp a b=some (zmj a b)):iter (σ:=(Int×Int)) (τ:=(Int)) (λs69=>
cond (decide (s69.2<(zm l))) (Zb (idx l (w64 (s69.2-1))) λx75=>
Zb (idx l s69.2) λx76=>
Zb (sp x75 x76) λy77=>
some (.inl ((w64 (s69.1+y77)),(w64 (s69.2+1))))) (some (.inr s69.1))) big (0,1)=some (zxE l):=by
  have hL:=zmk (B:=30000000) (N:=l.length) (f:=λi=>if 1<=i then zxD l i else 0) (F:=λs69:Int×Int=>
cond (decide (s69.2<(zm l))) (Zb (idx l (w64 (s69.2-1))) λx75=>
Zb (idx l s69.2) λx76=>
Zb (sp x75 x76) λy77=>
some (.inl ((w64 (s69.1+y77)),(w64 (s69.2+1))))) (some (.inr s69.1))) (by omega) (by omega) (by omega) (λi hi=>by
      split
      · exact zxA (zfT h (by omega)) (zfT h hi)
      · omega) (l.length-1) 1 0 (by omega) (by omega) (by omega) (λi s hi hk=>by
      rw [if_pos hi];simp only [];rw [zF hk,cond_true,zh (n:=(i:Int)-1) (by omega) (by omega),show (i:Int)-1=((i-1:Nat):Int) by omega,zn S0 (by omega),Zs,zn S0 hk,Zs,hsp _ _ (zfT h (by omega)) (zfT h hk)];rfl) (λs=>by simp only [zG,cond_false])
  rw [show ((1:Nat):Int)=1 from rfl,Int.zero_add] at hL;rw [hL.big (by simp only [big]; omega)];unfold zxE;rw [zls _ _ (λi hi _=>if_pos hi)]
theorem zqD {p:Plan} {i:Int} (hi:0<=i/\i<p.2.1.length) (h:RIx p (rl0 p i)) (hs:(zea p (rl0 p i)).all zc1=true):zaw p i=some (zxE (zea p (rl0 p i))):=by
 unfold zaw;rw [zpM hi h,Zs,zpN hs (by rw [zgM]; have:=h.s; omega) (sp:=λa b=>zc9 a b) (λa b=>zvL)];rfl
end Go.Ai.Sx
/- Tracks: which plans are valid. -/
namespace Go.Ai.Sx
open Option renaming bind->Zb,bind_some->Zs
def zuR (l:List Spot) (i:Nat):Bool:=inB (zxD l i) 1 1000000
def zml (l:List Spot):Bool:=(List.range (l.length-1)).all λi=>zuR l (i+1)
def zmm (p:Plan) (r:Rail):Bool:=inB r.1 0 (p.1.length-1)&&(inB r.2.1 0 (p.1.length-1)&&(!decide (zm r.2.2.1>30)&&(inB r.2.2.2.1 1 50000&&inB r.2.2.2.2.1 (-120) 120)))
def zh3 (p:Plan) (r:Rail):Bool:=zmm p r&&((zea p r).all zc1&&zml (zea p r))
theorem zmn {p:Plan} {r:Rail} (h:zmm p r=true):RIx p r:=by
 unfold zmm at h;simp only [Bool.and_eq_true,zI,Bool.not_eq_true',decide_eq_false_iff_not] at h;obtain ⟨a,b,c,_⟩:=h;rw [zp] at c;exact ⟨by omega,by omega,by omega⟩
theorem wnodes {p:Plan} (h:1<=p.1.length/\p.1.length<=300):w64 (zm p.1-1)=p.1.length-1:=by rw [zp,zh (by omega) (by omega)]
def prB (l:List Spot) (i:Nat):Bool:=zc1 (l.getD i S0)&&(decide (i=0)||zuR l i)
theorem zxF (l:List Spot) (h:1<=l.length):(List.range l.length).all (prB l)=(l.all zc1&&zml l):=by
 rw [Bool.eq_iff_iff,Bool.and_eq_true];unfold prB zml;simp only [List.all_eq_true,List.mem_range,Bool.and_eq_true,Bool.or_eq_true,decide_eq_true_eq];constructor
 . intro hh;refine ⟨λx hx=>?_,λi hi=>?_⟩
   . obtain ⟨i,hi,rfl⟩:=List.getElem_of_mem hx;have:=(hh i hi).1;simpa [List.getD,hi] using this
   . rcases (hh (i+1) (by omega)).2 with q | q
     . omega
     . exact q
 . rintro ⟨h1,h2⟩ i hi
   refine ⟨?_, ?_⟩
   . have:l.getD i S0=l[i]:=by simp [List.getD,hi]
     rw [this];exact h1 _ (List.getElem_mem hi)
   . by_cases h0:i=0
     . exact .inl h0
     . right;have:=h2 (i-1) (by omega);rwa [show i-1+1=i by omega] at this
theorem znB {l:List Spot} (hl:l.length<=40):∀ (k i:Nat),i+k=l.length->(∀ j,j<i->zc1 (l.getD j S0)=true)->Lp (λs45:Int=>
cond (decide (s45<(zm l))) (Zb (idx l s45) λx48=>
Zb (zcI x48) λy62=>
cond (!y62) (some (Sum.inr (Sum.inr false:Unit⊕Bool))) (cond (decide (s45>0)) (Zb (idx l (w64 (s45-1))) λx66=>
Zb (zcJ x66 x48) λy67=>
Zb (zN y67 1 1000000) λy68=>
cond (!y68) (some (.inr (.inr false))) (some (.inl (w64 (s45+1))))) (some (.inl (w64 (s45+1)))))) (some (.inr (.inl ())))) k (i:Int) (if (List.range' i k).all (prB l) then .inl () else .inr false)
  | 0,i,hi,_=>by
    have:i=l.length:=by omega
    subst this;exact Lp.done (by simp only [zG,cond_false]; rfl)
  | k+1,i,hi,hj=>by
    have hlt:i<l.length:=by omega
    have e1:=zF hlt;rw [List.range'_succ,List.all_cons];cases hs:zc1 (l.getD i S0) with
    | false=>
      have:prB l i=false:=by unfold prB; rw [hs]; rfl
      rw [this];refine Lp.done ?_;simp only [e1,cond_true,zn S0 hlt,Zs,zmi,hs,Bool.not_false];rfl
    | true=>
      have hj':∀ j,j<i+1->zc1 (l.getD j S0)=true:=λj h=>by
        by_cases e:j=i
        · rw [e]; exact hs
        · exact hj j (by omega)
      have ih:=znB hl k (i+1) (by omega) hj';by_cases h0:i=0
      · subst h0;have:prB l 0=true:=by unfold prB; rw [hs]; rfl
        rw [this,Bool.true_and];refine Lp.step (s':=((0+1:Nat):Int)) ?_ ih;simp only [e1,cond_true,zn S0 hlt,Zs,zmi,hs,Bool.not_true,cond_false];rfl
      · have e2:decide ((i:Int)>0)=true:=decide_eq_true (by omega);have hsp:=zsn (hj (i-1) (by omega)) hs;have hp:prB l i=zuR l i:=by unfold prB; rw [hs,decide_eq_false h0]; rfl
        rw [hp];have hf:∀ X:Option (Int⊕(Unit⊕Bool)),(cond (decide ((i:Int)<(zm l))) (Zb (idx l (i:Int)) λx48=>
Zb (zcI x48) λy62=>
cond (!y62) (some (Sum.inr (Sum.inr false:Unit⊕Bool))) (cond (decide ((i:Int)>0)) (Zb (idx l (w64 ((i:Int)-1))) λx66=>
Zb (zcJ x66 x48) λy67=>
Zb (zN y67 1 1000000) λy68=>
cond (!y68) (some (.inr (.inr false))) (some (.inl (w64 ((i:Int)+1))))) (some (.inl (w64 ((i:Int)+1)))))) X)=cond (!zuR l i) (some (.inr (.inr false))) (some (.inl ((i+1:Nat):Int))):=λX=>by
          rw [e1,cond_true,zn S0 hlt,Zs,zmi,hs,Zs,e2,zh (n:=(i:Int)-1) (by omega) (by omega),show (i:Int)-1=((i-1:Nat):Int) by omega,zn S0 (by omega)];simp only [Bool.not_true,cond_false,cond_true,Zs];rw [hsp,Zs,twithin,Zs,zy (by omega)];rfl
        cases hb:zuR l i with
        | false=>
          rw [Bool.false_and];refine Lp.done ?_;rw [hf,hb]; rfl
        | true=>
          rw [Bool.true_and];refine Lp.step (s':=((i+1:Nat):Int)) ?_ ih;rw [hf,hb]; rfl
theorem zxG {p:Plan} (hp:1<=p.1.length/\p.1.length<=300) (r:Rail):zeE p r=some (zh3 p r):=by
 unfold zeE zh3;simp only [twithin,Zs,wnodes hp];have hc:∀ X Y:Option Bool,Zb (cond (!inB r.1 0 (p.1.length-1)) (some true) (cond (!inB r.2.1 0 (p.1.length-1)) (some true) (cond (decide (zm r.2.2.1>30)) (some true) (cond (!inB r.2.2.2.1 1 50000) (some true) (some (!inB r.2.2.2.2.1 (-120) 120)))))) (λc9=>cond c9 X Y)=if zmm p r then Y else X:=λX Y=>by
  unfold zmm;cases inB r.1 0 (p.1.length-1) with
  | false=>rfl
  | true=>
  cases inB r.2.1 0 (p.1.length-1) with
  | false=>rfl
  | true=>
  cases decide (zm r.2.2.1>30) with
  | true=>rfl
  | false=>
  cases inB r.2.2.2.1 1 50000 with
  | false=>rfl
  | true=>cases inB r.2.2.2.2.1 (-120) 120<;>rfl
 rw [hc];cases hh:zmm p r with
 | false=>rfl
 | true=>
  have hix:=zmn hh;have hlen:(zea p r).length<=40/\1<=(zea p r).length:=by rw [zgM]; have:=hix.s; omega
  rw [if_pos rfl,zso hix,Zs];have hL:=znB hlen.1 (zea p r).length 0 (by omega) (λj hj=>by omega);rw [show ((0:Nat):Int)=0 from rfl] at hL;simp only [twithin,Zs] at hL;rw [hL.big (by simp only [big]; omega),Zs,← List.range_eq_range',zxF _ hlen.2];cases ((zea p r).all zc1&&zml (zea p r))<;>rfl
theorem zpO {p:Plan} {r:Rail} (hn:p.1.all nodeB=true) (h:RIx p r):(zea p r).all zc1=r.2.2.1.all zc1:=by
 have hsp:∀ i:Int,0<=i->i<p.1.length->zc1 (nd p i).1=true:=λi h0 h1=>by
  have hlt:i.toNat<p.1.length:=by omega
  have:nd p i=p.1[i.toNat]:=by unfold nd; simp [List.getD,hlt]
  rw [this];have:=List.all_eq_true.1 hn _ (List.getElem_mem hlt);unfold nodeB at this;simp only [Bool.and_eq_true] at this;exact this.1.1.1
 unfold zea;rw [List.all_append,List.all_append];simp only [List.all_cons,List.all_nil,Bool.and_true];rw [hsp _ h.f.1 h.f.2,hsp _ h.t.1 h.t.2,Bool.and_true,Bool.true_and]
theorem zuS {l:List Spot} (h:l.all zc1=true) (hl:1<=l.length/\l.length<=40):iter (σ:=(Int)) (τ:=Unit⊕(Bool)) (λs283=>
cond (decide (s283<(zm l))) (Zb (idx l (w64 (s283-1))) λx290=>
Zb (idx l s283) λx291=>
Zb (zc9 x290 x291) λy292=>
Zb (z4 y292 1 1000000) λy293=>
cond (!y293) (some (.inr (.inr false))) (some (.inl (w64 (s283+1))))) (some (.inr (.inl ())))) big 1=some (if zml l then .inl () else .inr false):=by
 unfold zml;rw [zbn (s0:=(1:Int)) (λi=>((i+1:Nat):Int)) (l.length-1) (λi=>zuR l (i+1)) (.inr false) (.inl ()) rfl (by simp only [big]; omega)]
 . intro i hi;have hlt:i+1<l.length:=by omega
   rw [zF hlt,cond_true,zh (n:=((i+1:Nat):Int)-1) (by omega) (by omega),show ((i+1:Nat):Int)-1=(i:Int) by omega,zn S0 (by omega),Zs,zn S0 hlt,Zs,zvL (zfT h (by omega)) (zfT h hlt),Zs,zsl,Zs,zy (by omega)];show cond (!zuR l (i+1)) _ _=_;cases zuR l (i+1)<;>rfl
 . rw [show l.length-1+1=l.length by omega,zG,cond_false]
theorem zuT {p:Plan} (hp:1<=p.1.length/\p.1.length<=300) (hn:p.1.all nodeB=true) {i:Nat} (hi:i<p.2.1.length) (hR:p.2.1.length<=400):(Zb (idx p.2.1 (i:Int)) λx234=>
Zb (z4 x234.1 0 (w64 ((zm p.1)-1))) λy244=>
cond (!y244) (some (Sum.inr (Sum.inr false:Unit⊕Bool))) (Zb (z4 x234.2.1 0 (w64 ((zm p.1)-1))) λy247=>
cond (!y247) (some (.inr (.inr false))) (cond (decide ((zm x234.2.2.1)>30)) (some (.inr (.inr false))) (Zb (z4 x234.2.2.2.1 1 50000) λy252=>
cond (!y252) (some (.inr (.inr false))) (Zb (z4 x234.2.2.2.2.1 (-120) 120) λy255=>
cond (!y255) (some (.inr (.inr false))) (Zb (iter (σ:=(Int)) (τ:=Unit⊕(Bool)) (λs261=>
cond (decide (s261<(zm x234.2.2.1))) (Zb (idx x234.2.2.1 s261) λx264=>
Zb (zbc x264) λy265=>
cond (!y265) (some (.inr (.inr false))) (some (.inl (w64 (s261+1))))) (some (.inr (.inl ())))) big 0) λt267=>
alt (λb269=>Zb (zc8 p (i:Int)) λy271=>
Zb (iter (σ:=(Int)) (τ:=Unit⊕(Bool)) (λs283=>
cond (decide (s283<(zm y271))) (Zb (idx y271 (w64 (s283-1))) λx290=>
Zb (idx y271 s283) λx291=>
Zb (zc9 x290 x291) λy292=>
Zb (z4 y292 1 1000000) λy293=>
cond (!y293) (some (.inr (.inr false))) (some (.inl (w64 (s283+1))))) (some (.inr (.inl ())))) big 1) λt295=>
alt (λb297=>some (.inl (w64 ((i:Int)+1)))) (λb298=>some (.inr (.inr b298))) t295) (λb270=>some (.inr (.inr b270))) t267))))))=some (if zh3 p p.2.1[i] then .inl ((i:Int)+1) else .inr (.inr false)):=by
 rw [zbD hi,Zs];have hrl:rl0 p (i:Int)=p.2.1[i]:=by unfold rl0; simp [List.getD,hi]
 rw [← hrl];obtain ⟨r,hr⟩:∃ r,r=rl0 p (i:Int):=⟨_,rfl⟩;rw [← hr];simp only [zsl,Zs,wnodes hp];unfold zh3 zmm;cases h1:inB r.1 0 (p.1.length-1) with
 | false=>rfl
 | true=>
 cases h2:inB r.2.1 0 (p.1.length-1) with
 | false=>rfl
 | true=>
 cases h3:decide (zm r.2.2.1>30) with
 | true=>rfl
 | false=>
 cases h4:inB r.2.2.2.1 1 50000 with
 | false=>rfl
 | true=>
 cases h5:inB r.2.2.2.2.1 (-120) 120 with
 | false=>rfl
 | true=>
 have hix:RIx p r:=zmn (by unfold zmm; rw [h1,h2,h3,h4,h5]; rfl);have hsl:=hix.s;simp only [Bool.not_true,cond_false,Bool.not_false,Bool.true_and];rw [zpO hn hix,zgJ r.2.2.1 zc1 false (by omega)]
 ·cases hs:r.2.2.1.all zc1 with
  | false=>rfl
  | true=>
   simp only [if_true,Zs,zaG,Bool.true_and];have hq:=zuS (l:=zea p r) (by rw [zpO hn hix]; exact hs) (by rw [zgM]; omega);simp only [zsl,Zs] at hq;rw [zpM (i:=(i:Int)) (by omega) (by rw [← hr]; exact hix),← hr,Zs,hq,Zs];cases zml (zea p r) with
   | false=>rfl
   | true=>
    simp only [if_true,zaG];rw [zh (by omega) (by omega)]
 ·intro j hj;rw [zF hj,cond_true,zbD hj,Zs,zpL,Zs,zh (by omega) (by omega)];cases zc1 r.2.2.1[j]<;>rfl
 ·rw [zG,cond_false]
end Go.Ai.Sx
/- Tracks: which plans are valid,and what is known of them. -/
namespace Go.Ai.Sx
open Option renaming bind->Zb,bind_some->Zs
def atS (p:Plan) (e:zl):Int:=if e.2.1 then (rl0 p e.1).2.1 else (rl0 p e.1).1
theorem zh4 {p:Plan} {e:zl} (h:0<=e.1/\e.1<p.2.1.length):zcp p e=some (atS p e)/\zfb p e=some (atS p e):=by
 unfold zcp zfb atS;rw [zbg (d:=(0,0,[],0,0,())) h.1 h.2];cases e.2.1<;>exact ⟨rfl,rfl⟩
def eOk (p:Plan) (i:Nat) (acc:List zl) (e:zl):Bool:=inB e.1 0 (p.2.1.length-1)&&((atS p e==(i:Int))&&!decide (e∈acc))
def zfv (p:Plan) (i:Nat):List zl->List zl->Option (List zl)
 | [],acc=>some acc
 | e::es,acc=>if eOk p i acc e then zfv p i es (acc++[e]) else none
def zhu (p:Plan):List zcb->Nat->List zl->Option (List zl)
 | [],_,acc=>some acc
 | n::ns,i,acc=>match zfv p i n.2.2.1 acc with
  | some acc'=>zhu p ns (i+1) acc'
  | none=>none
def zuU (p:Plan):Bool:=match zhu p p.1 0 [] with
 | some acc=>decide ((acc.length:Int)=2*p.2.1.length)
 | none=>false
def zat (p:Plan):Bool:=inB (zm p.1) 1 300&&inB (zm p.2.1) 1 400&&(p.1.all nodeB&&p.2.1.all (zh3 p))&&zuU p
theorem zh5 {p:Plan} {i:Nat}:∀ {es acc acc':List zl},zfv p i es acc=some acc'->acc'=acc++es
 | [],acc,acc',h=>by cases h; simp
 | e::es,acc,acc',h=>by
  unfold zfv at h;split at h
  . rw [zh5 h]; simp
  . cases h
theorem zsp {A:Type} [DecidableEq A] (acc:List A) (e:A):(mget (acc.map λa=>(a,true)) e).getD false=decide (e∈acc):=by
 induction acc with
 | nil=>rfl
 | cons a acc ih=>
  rw [List.map_cons,mget];by_cases h:e=a
  . rw [if_pos h,h]; simp
  . rw [if_neg h,ih]; simp [h]
theorem zpP {A B:Type} [DecidableEq A]:∀ (m:List (A×B)) (e:A) (v:B),mget m e=none->mset m e v=m++[(e,v)]
 | [],_,_,_=>rfl
 | (k,w)::es,e,v,h=>by
  rw [mget] at h;split at h
  . cases h
  . rename_i hk;rw [mset,if_neg hk,zpP es e v h]; rfl
theorem zsq {A:Type} [DecidableEq A] (acc:List A) (e:A) (h:¬ e∈acc):mget (acc.map λa=>(a,true)) e=none:=by
 induction acc with
 | nil=>rfl
 | cons a acc ih=>
  rw [List.mem_cons,not_or] at h;rw [List.map_cons,mget,if_neg h.1,ih h.2]
theorem wrails {p:Plan} (h:1<=p.2.1.length/\p.2.1.length<=400):w64 (zm p.2.1-1)=p.2.1.length-1:=by rw [zp,zh (by omega) (by omega)]
def mT (acc:List zl):List (zl×Bool):=acc.map λa=>(a,true)
theorem zxH (acc:List zl) (e:zl) (h:¬ e∈acc):mset (mT acc) e true=mT (acc++[e]):=by
 unfold mT;rw [zpP _ _ _ (zsq acc e h),List.map_append]; rfl
theorem zlt {p:Plan} {i:Nat}:∀ (es acc:List zl) (k:Nat),match zfv p i es acc with
    | some acc'=>ze2 (λ_ acc e=>if eOk p i acc e then .inl (acc++[e]) else .inr (.inr (2,mT acc))) (λacc=>.inl (mT acc)) es k acc=(.inl (mT acc'):List (zl×Bool)⊕(Int×List (zl×Bool)))
    | none=>∃ m,ze2 (λ_ acc e=>if eOk p i acc e then .inl (acc++[e]) else .inr (.inr (2,mT acc))) (λacc=>.inl (mT acc)) es k acc=(.inr (2,m):List (zl×Bool)⊕(Int×List (zl×Bool)))
  | [],acc,k=>rfl
  | e::es,acc,k=>by
    unfold zfv;rw [ze2];cases h:eOk p i acc e with
    | true=>
      simp only [if_true];exact zlt es (acc++[e]) (k+1)
    | false=>
      simp only [Bool.false_eq_true,if_false];exact ⟨_,rfl⟩
theorem zsr {p:Plan} (hR:1<=p.2.1.length/\p.2.1.length<=400) (i:Nat) (es acc:List zl) (hes:es.length<=4) :
    iter (σ:=(Int×(List (zl×Bool)))) (τ:=(List (zl×Bool))⊕(Int×(List (zl×Bool)))) (λs153=>
cond (decide (s153.1<(zm es))) (Zb (idx es s153.1) λx156=>
Zb (zN x156.1 0 (w64 ((zm p.2.1)-1))) λy162=>
cond (!y162) (some (.inr (.inr (2,s153.2)))) (cond ((mget s153.2 x156).getD false) (some (.inr (.inr (2,s153.2)))) (Zb (zcp p x156) λy167=>
cond (y167 !=(i:Int)) (some (.inr (.inr (2,s153.2)))) (some (.inl ((w64 (s153.1+1)),(mset s153.2 x156 true))))))) (some (.inr (.inl s153.2)))) big (0,mT acc)=some (ze2 (λ_ acc e=>if eOk p i acc e then .inl (acc++[e]) else .inr (.inr (2,mT acc))) (λacc=>.inl (mT acc)) es 0 acc):=by
  rw [zcE (s0:=((0:Int),mT acc)) es (λk acc=>((k:Int),mT acc)) (λ_ acc e=>if eOk p i acc e then .inl (acc++[e]) else .inr (.inr (2,mT acc))) (λacc=>.inl (mT acc)) (λ_ _=>True) acc rfl (by omega) trivial]
  · intro k hk acc _;refine ⟨?_,λ_ _=>trivial⟩;simp only [];rw [zF hk,cond_true,zbD hk,Zs,twithin,Zs,wrails hR];obtain ⟨e,he⟩:∃ e,e=es[k]:=⟨_,rfl⟩;rw [← he];unfold eOk;cases h1:inB e.1 0 (p.2.1.length-1) with
    | false=>rfl
    | true=>
      have h1':=zI.1 h1;have hm:(mget (mT acc) e).getD false=decide (e∈acc):=(zsp acc e).trans (decide_eq_decide.2 Iff.rfl);rw [hm,(zh4 (p:=p) (e:=e) (by omega)).1];simp only [Bool.not_true,cond_false,Bool.true_and,Zs];by_cases h2:e∈acc
      · rw [decide_eq_true h2];cases (atS p e==(i:Int))<;>rfl
      · rw [decide_eq_false h2];simp only [cond_false,Bool.not_false,Bool.and_true,bne];cases h3:(atS p e==(i:Int)) with
        | false=>rfl
        | true=>
          simp only [Bool.not_true,cond_false,if_true];rw [zxH acc e h2,zy (by omega)]
  · intro acc _;simp only [];rw [zG,cond_false]
theorem zeN {n:zcb} (h:nodeB n=true):n.2.2.1.length<=4:=by
 unfold nodeB at h;simp only [Bool.and_eq_true,beq_iff_eq] at h;have h1:=h.1.2;rw [zp] at h1;have:zht n.2.1<=4:=by
  unfold zht;split
  . omega
  . split
    . omega
    . split
      . omega
      . split<;>omega
 omega
theorem zqE {p:Plan} (hN:1<=p.1.length/\p.1.length<=300) (hR:1<=p.2.1.length/\p.2.1.length<=400) (hn:p.1.all nodeB=true) :
    (iter (σ:=(Int×(List (zl×Bool)))) (τ:=(List (zl×Bool))⊕(Int)) (λs120=>
cond (decide (s120.1<(zm p.1))) (Zb (idx p.1 s120.1) λx123=>
Zb (iter (σ:=(Int×(List (zl×Bool)))) (τ:=(List (zl×Bool))⊕(Int×(List (zl×Bool)))) (λs153=>
cond (decide (s153.1<(zm x123.2.2.1))) (Zb (idx x123.2.2.1 s153.1) λx156=>
Zb (zN x156.1 0 (w64 ((zm p.2.1)-1))) λy162=>
cond (!y162) (some (.inr (.inr (2,s153.2)))) (cond ((mget s153.2 x156).getD false) (some (.inr (.inr (2,s153.2)))) (Zb (zcp p x156) λy167=>
cond (y167 !=s120.1) (some (.inr (.inr (2,s153.2)))) (some (.inl ((w64 (s153.1+1)),(mset s153.2 x156 true))))))) (some (.inr (.inl s153.2)))) big (0,s120.2)) λt169=>
alt (λb171=>some (.inl ((w64 (s120.1+1)),b171))) (λb172=>some (.inr (.inr b172.1))) t169) (some (.inr (.inl s120.2)))) big (0,([]:(List (zl×Bool)))))=some (match zhu p p.1 0 [] with | some acc=>.inl (mT acc) | none=>.inr 2)/\∀ acc,zhu p p.1 0 []=some acc->acc.length<=1200:=by
  have hfold:∀ (ns:List zcb) (i:Nat) (acc:List zl),ze2 (λi acc (n:zcb)=>match zfv p i n.2.2.1 acc with | some acc'=>.inl acc' | none=>.inr (.inr 2)) (λacc=>.inl (mT acc)) ns i acc=(match zhu p ns i acc with | some acc=>.inl (mT acc) | none=>.inr 2:List (zl×Bool)⊕Int):=by
    intro ns;induction ns with
    | nil=>intro i acc; rfl
    | cons n ns ih=>
      intro i acc;rw [ze2,zhu];cases zfv p i n.2.2.1 acc with
      | none=>rfl
      | some acc'=>exact ih (i+1) acc'
  have hlen:∀ (ns:List zcb) (i:Nat) (acc acc':List zl),ns.all nodeB=true->zhu p ns i acc=some acc'->acc'.length<=acc.length+4*ns.length:=by
    intro ns;induction ns with
    | nil=>intro i acc acc' _ h; cases h; simp
    | cons n ns ih=>
      intro i acc acc' hns h;rw [List.all_cons,Bool.and_eq_true] at hns;rw [zhu] at h;cases hs:zfv p i n.2.2.1 acc with
      | none=>rw [hs] at h; cases h
      | some a=>
        rw [hs] at h;have h1:=ih (i+1) a acc' hns.2 h;have h2:=zh5 hs;have h3:=zeN hns.1;rw [h2,List.length_append] at h1;rw [List.length_cons];omega
  refine ⟨?_,λacc h=>by have:=hlen p.1 0 [] acc hn h; simp only [List.length_nil] at this; omega⟩;rw [zcE (s0:=((0:Int),([]:List (zl×Bool)))) p.1 (λk acc=>((k:Int),mT acc)) (λi acc (n:zcb)=>match zfv p i n.2.2.1 acc with | some acc'=>.inl acc' | none=>.inr (.inr 2)) (λacc=>.inl (mT acc)) (λ_ _=>True) [] rfl (by omega) trivial]
  · rw [hfold]
  · intro i hi acc _;refine ⟨?_,λ_ _=>trivial⟩;simp only [];rw [zF hi,cond_true,zbD hi,Zs,zsr hR i _ acc (zeN (List.all_eq_true.1 hn _ (List.getElem_mem hi))),Zs];have:=zlt (p:=p) (i:=i) p.1[i].2.2.1 acc 0;cases hs:zfv p i p.1[i].2.2.1 acc with
    | some acc'=>
      rw [hs] at this;simp only at this;rw [this,zaG,zy (by omega)]
    | none=>
      rw [hs] at this;obtain ⟨m,this⟩:=this;rw [this,zoR]
  · intro acc _;simp only [];rw [zG,cond_false]
theorem zmo (s:List zcb) (hs:s.length<=9223372036854775807) (f:zcb->Option Bool) (p:zcb->Bool) (hf:∀ x∈s,f x=some (p x)):zad s f=some (s.any p):=by
 obtain ⟨k,h1,h2⟩:=zh2 s hs f p hf;unfold zad zal;rw [h1,Zs,h2]
theorem zmp (s:List Rail) (hs:s.length<=9223372036854775807) (f:Rail->Option Bool) (p:Rail->Bool) (hf:∀ x∈s,f x=some (p x)):zae s f=some (s.any p):=by
 obtain ⟨k,h1,h2⟩:=zh2 s hs f p hf;unfold zae zam;rw [h1,Zs,h2]
theorem zss {A:Type} (l:List A) (p:A->Bool):(l.any λx=>!p x)=!l.all p:=by rw [List.any_eq_not_all_not]; simp
theorem znC (p:Plan):zdj p=some (if zat p then 0 else 2):=by
 unfold zdj zat;rw [twithin,twithin];cases h1:inB (zm p.1) 1 300 with
 | false=>rfl
 | true=>
 cases h2:inB (zm p.2.1) 1 400 with
 | false=>rfl
 | true=>
 have hN:=zI.1 h1;have hR:=zI.1 h2;rw [zp] at hN hR;have hN:1<=p.1.length/\p.1.length<=300:=by omega
 have hR:1<=p.2.1.length/\p.2.1.length<=400:=by omega
 simp only [Zs,Bool.not_true,cond_false,Bool.true_and];rw [zmo p.1 (by omega) _ (λn=>!nodeB n) (λx _=>by unfold zfo; rw [zxB]; rfl),zss,zmp p.2.1 (by omega) _ (λr=>!zh3 p r) (λx _=>by unfold zd2; rw [zxG hN]; rfl),zss];cases h3:p.1.all nodeB with
 | false=>rfl
 | true=>
 cases h4:p.2.1.all (zh3 p) with
 | false=>rfl
 | true=>
 simp only [Zs,Bool.not_true,cond_false,Bool.true_and];obtain ⟨n1,n2⟩:=zqE hN hR h3;rw [n1,Zs];unfold zuU;cases h5:zhu p p.1 0 [] with
 | none=>rfl
 | some acc=>
  have hl:=n2 acc h5;simp only [zaG];have hm:(mT acc).length=acc.length:=by unfold mT; rw [List.length_map]
  unfold zum;rw [hm,if_pos (by omega),Zs,zp,zh (n:=2*(p.2.1.length:Int)) (by omega) (by omega)];show cond ((acc.length:Int)!=2*(p.2.1.length:Int)) (some 2) (some 0)=some (if decide ((acc.length:Int)=2*p.2.1.length)=true then 0 else 2);by_cases hq:(acc.length:Int)=2*p.2.1.length
  . have:((acc.length:Int)!=2*(p.2.1.length:Int))=false:=by rw [bne_eq_false_iff_eq]; exact hq
    rw [this,if_pos (decide_eq_true hq)]; rfl
  . have:((acc.length:Int)!=2*(p.2.1.length:Int))=true:=by rw [bne_iff_ne]; exact hq
    rw [this,if_neg (by rw [decide_eq_true_eq]; exact hq)]; rfl
end Go.Ai.Sx
/- Tracks: the reference's look at a plan. -/
namespace Go.Ai.Sx
open Option renaming bind->Zb,bind_some->Zs
theorem zuV (n:zcb) (T:Option (Int⊕(Unit⊕Bool))):(cond (n.2.1==5) (Zb (z4 n.2.2.2.1 1 2) λy92=>
Zb (zbc n.1) λy105=>
cond (!y105) (some (.inr (.inr false))) (Zb (zax n.2.1) λy108=>
cond (y108==0) (some (.inr (.inr false))) (Zb (zax n.2.1) λy111=>
cond ((zm n.2.2.1)!=y111) (some (.inr (.inr false))) (cond (!y92) (some (.inr (.inr false))) T)))) (cond (n.2.1==6) (Zb (z4 n.2.2.2.1 1 2) λy116=>
Zb (zbc n.1) λy129=>
cond (!y129) (some (.inr (.inr false))) (Zb (zax n.2.1) λy132=>
cond (y132==0) (some (.inr (.inr false))) (Zb (zax n.2.1) λy135=>
cond ((zm n.2.2.1)!=y135) (some (.inr (.inr false))) (cond (!y116) (some (.inr (.inr false))) T)))) (Zb (zbc n.1) λy151=>
cond (!y151) (some (.inr (.inr false))) (Zb (zax n.2.1) λy154=>
cond (y154==0) (some (.inr (.inr false))) (Zb (zax n.2.1) λy157=>
cond ((zm n.2.2.1)!=y157) (some (.inr (.inr false))) (cond (!(n.2.2.2.1==0)) (some (.inr (.inr false))) T))))))=cond (nodeB n) T (some (.inr (.inr false))):=by
 simp only [zsl,zpL,zuQ,Zs];unfold nodeB;have hb:∀ b1 b2 b3 b4:Bool,cond (!b1) (some (Sum.inr (Sum.inr false))) (cond b2 (some (.inr (.inr false))) (cond (!b3) (some (.inr (.inr false))) (cond (!b4) (some (.inr (.inr false))) T)))=cond (b1&&!b2&&b3&&b4) T (some (.inr (.inr false))):=by
  intro b1 b2 b3 b4;cases b1<;>cases b2<;>cases b3<;>cases b4<;>rfl
 unfold bne;by_cases h5:n.2.1=5
 . have e5:(n.2.1==5)=true:=by simpa using h5
   rw [if_pos (.inl h5),e5,cond_true];exact hb _ _ _ _
 . have e5:(n.2.1==5)=false:=by simpa using h5
   rw [e5,cond_false];by_cases h6:n.2.1=6
   . have e6:(n.2.1==6)=true:=by simpa using h6
     rw [if_pos (.inr h6),e6,cond_true];exact hb _ _ _ _
   . have e6:(n.2.1==6)=false:=by simpa using h6
     rw [if_neg (by omega),e6,cond_false];exact hb _ _ _ _
theorem zkl {p:Plan} {i:Nat}:∀ (es acc:List zl) (k:Nat),ze2 (λ_ acc e=>if eOk p i acc e then .inl (acc++[e]) else .inr (.inr false)) (λacc=>.inl acc) es k acc=(match zfv p i es acc with | some acc'=>.inl acc' | none=>.inr false:List zl⊕Bool)
 | [],acc,k=>rfl
 | e::es,acc,k=>by
  unfold zfv;rw [ze2];cases h:eOk p i acc e with
  | true=>
   simp only [if_true];exact zkl es (acc++[e]) (k+1)
  | false=>rfl
theorem zuW (acc:List zl) (e:zl) (hl:acc.length<=100000):iter (σ:=(Int)) (τ:=Unit⊕(Bool)) (λs419=>
cond (decide (s419<(zm acc))) (Zb (idx acc s419) λx423=>
cond (x423==e) (some (.inr (.inr false))) (some (.inl (w64 (s419+1))))) (some (.inr (.inl ())))) big 0=some (if decide (e∈acc) then .inr false else .inl ()):=by
 rw [zgJ acc (λx=>!(x==e)) false (by omega)]
 . congr 1;have:(acc.all λx=>!(x==e))=!decide (e∈acc):=by
    rw [Bool.eq_iff_iff,Bool.not_eq_true',decide_eq_false_iff_not,List.all_eq_true];constructor
    . intro h hm;have:=h e hm;simp at this
    . intro h x hx;have:x≠e:=λq=>h (q▸hx);simpa using this
   rw [this];cases decide (e∈acc)<;>rfl
 . intro i h;rw [zF h,cond_true,zbD h,Zs,zh (by omega) (by omega)];cases (acc[i]==e)<;>rfl
 . rw [zG,cond_false]
theorem zqF {p:Plan} (hR:1<=p.2.1.length/\p.2.1.length<=400) {i:Nat} (hi:i<p.1.length) (acc:List zl) (hes:p.1[i].2.2.1.length<=4) (hacc:acc.length<=5000) :
    iter (σ:=((List zl)×Int)) (τ:=(List zl)⊕(Bool)) (λs400=>
Zb (idx p.1 (i:Int)) λx402=>
cond (decide (s400.2<(zm x402.2.2.1))) (Zb (idx p.1 (i:Int)) λx404=>
Zb (idx x404.2.2.1 s400.2) λx405=>
Zb (z4 x405.1 0 (w64 ((zm p.2.1)-1))) λy410=>
cond (!y410) (some (.inr (.inr false))) (Zb (zfb p x405) λy413=>
cond (y413 !=(i:Int)) (some (.inr (.inr false))) (Zb (iter (σ:=(Int)) (τ:=Unit⊕(Bool)) (λs419=>
cond (decide (s419<(zm s400.1))) (Zb (idx s400.1 s419) λx423=>
cond (x423==x405) (some (.inr (.inr false))) (some (.inl (w64 (s419+1))))) (some (.inr (.inl ())))) big 0) λt425=>
alt (λb427=>Zb (zdp 16 s400.1 ([x405])) λx429=>
some (.inl (x429,(w64 (s400.2+1))))) (λb428=>some (.inr (.inr b428))) t425))) (some (.inr (.inl s400.1)))) big (acc,0)=some (match zfv p i p.1[i].2.2.1 acc with | some acc'=>.inl acc' | none=>.inr false):=by
  rw [zcE (s0:=(acc,(0:Int))) p.1[i].2.2.1 (λk acc=>(acc,(k:Int))) (λ_ acc e=>if eOk p i acc e then .inl (acc++[e]) else .inr (.inr false)) (λacc=>.inl acc) (λk acc=>acc.length<=5000+k) acc rfl (by omega) hacc]
  · rw [zkl]
  · intro k hk acc ha;simp only [];refine ⟨?_,λb' hb=>?_⟩
    · rw [zbD hi,Zs,zF hk,cond_true,Zs,zbD hk,Zs,zsl,Zs,wrails hR];obtain ⟨e,he⟩:∃ e,e=p.1[i].2.2.1[k]:=⟨_,rfl⟩;rw [← he];unfold eOk;cases h1:inB e.1 0 (p.2.1.length-1) with
      | false=>rfl
      | true=>
        have h1':=zI.1 h1;rw [(zh4 (p:=p) (e:=e) (by omega)).2];simp only [Bool.not_true,cond_false,Bool.true_and,Zs,bne];cases h3:(atS p e==(i:Int)) with
        | false=>rfl
        | true=>
          simp only [Bool.not_true,cond_false,Bool.true_and];rw [zuW acc e (by omega),Zs];by_cases h2:e∈acc
          · rw [if_pos (decide_eq_true h2),decide_eq_true h2]; rfl
          · rw [if_neg (by rw [decide_eq_true_eq]; exact h2),decide_eq_false h2];simp only [zaG,Bool.not_false,if_true];rw [zaF (by simp only [List.length_singleton]; omega),Zs,zy (by omega)]
    · split at hb
      · cases hb;rw [List.length_append,List.length_singleton]; omega
      · cases hb
  · intro acc _;simp only [];rw [zbD hi,Zs,zG,cond_false]
theorem zkm (p:Plan):zcO p=some (zat p):=by
 unfold zcO zat;rw [zsl,zsl];cases h1:inB (zm p.1) 1 300 with
 | false=>rfl
 | true=>
 cases h2:inB (zm p.2.1) 1 400 with
 | false=>rfl
 | true=>
 have hN:=zI.1 h1;have hR:=zI.1 h2;rw [zp] at hN hR;have hN:1<=p.1.length/\p.1.length<=300:=by omega
 have hR:1<=p.2.1.length/\p.2.1.length<=400:=by omega
 simp only [Zs,Bool.not_true,cond_false,Bool.true_and];rw [zgJ p.1 nodeB false (by omega)];rotate_left
 ·intro i h;rw [zF h,cond_true,zbD h,Zs,zuV,zh (by omega) (by omega)];cases nodeB p.1[i]<;>rfl
 ·rw [zG,cond_false]
 cases h3:p.1.all nodeB with
 | false=>rfl
 | true=>
 simp only [if_true,Zs,zaG,Bool.true_and];rw [zgJ p.2.1 (zh3 p) false (by omega)];rotate_left
 ·intro i h;rw [zF h,cond_true];exact zuT hN h3 h hR.2
 ·rw [zG,cond_false]
 cases h4:p.2.1.all (zh3 p) with
 | false=>rfl
 | true=>
 simp only [if_true,Zs,zaG,Bool.true_and];have hfold:∀ (ns:List zcb) (i:Nat) (acc:List zl),ze2 (λi acc (n:zcb)=>match zfv p i n.2.2.1 acc with | some acc'=>.inl acc' | none=>.inr (.inr false)) (λacc=>.inl acc) ns i acc=(match zhu p ns i acc with | some acc=>.inl acc | none=>.inr false:List zl⊕Bool):=by
  intro ns;induction ns with
  | nil=>intro i acc; rfl
  | cons n ns ih=>
   intro i acc;rw [ze2,zhu];cases zfv p i n.2.2.1 acc with
   | none=>rfl
   | some acc'=>exact ih (i+1) acc'
 rw [zcE (s0:=(([]:List zl),(0:Int))) p.1 (λk acc=>(acc,(k:Int))) (λi acc (n:zcb)=>match zfv p i n.2.2.1 acc with | some acc'=>.inl acc' | none=>.inr (.inr false)) (λacc=>.inl acc) (λk acc=>acc.length<=4*k) [] rfl (by omega) (by simp)];rotate_left
 ·intro i hi acc hacc;have hes:=zeN (List.all_eq_true.1 h3 _ (List.getElem_mem hi));simp only [];refine ⟨?_,λb' hb=>?_⟩
  ·rw [zF hi,cond_true,zqF hR hi acc hes (by omega),Zs];cases hs:zfv p i p.1[i].2.2.1 acc with
   | none=>rfl
   | some acc'=>simp only [zaG]; rw [zy (by omega)]
  ·cases hs:zfv p i p.1[i].2.2.1 acc with
   | none=>rw [hs] at hb; cases hb
   | some acc'=>
    rw [hs] at hb;cases hb;rw [zh5 hs,List.length_append];omega
 ·intro acc _;simp only [];rw [zG,cond_false]
 rw [hfold,Zs];unfold zuU;cases h5:zhu p p.1 0 [] with
 | none=>rfl
 | some acc=>
  simp only [zaG];rw [zp,zp,zh (n:=2*(p.2.1.length:Int)) (by omega) (by omega)];by_cases hq:(acc.length:Int)=2*p.2.1.length
  ·rw [hq]; simp
  ·rw [decide_eq_false hq];congr 1;simpa using hq
end Go.Ai.Sx
/- Tracks: what is known of a valid plan; which moves follow. -/
namespace Go.Ai.Sx
open Option renaming bind->Zb,bind_some->Zs
theorem zlu {A:Type} [DecidableEq A]:∀ {l m:List A},l.Nodup->(∀ x∈l,x∈m)->l.length<=m.length
 | [],_,_,_=>Nat.zero_le _
 | x::l,m,hn,hs=>by
  have hn':=List.nodup_cons.1 hn;have h1:∀ y∈l,y∈m.erase x:=λy hy=>(List.mem_erase_of_ne (λe=>hn'.1 (by rw [← e]; exact hy))).2 (hs y (List.mem_cons_of_mem _ hy));have h2:=zlu hn'.2 h1;have h3:=List.length_erase_of_mem (hs x List.mem_cons_self);have h4:0<m.length:=List.length_pos_of_mem (hs x List.mem_cons_self);simp only [List.length_cons];omega
theorem zoW {A:Type} [DecidableEq A] {l m:List A} (hn:l.Nodup) (hs:∀ x∈l,x∈m) (hl:m.length<=l.length) {y:A} (hy:y∈m):y∈l:=by
 apply Classical.byContradiction;intro h;have:=zlu (l:=y::l) (m:=m) (List.nodup_cons.2 ⟨h,hn⟩) (λx hx=>(List.mem_cons.1 hx).elim (λe=>e▸hy) (hs x));simp only [List.length_cons] at this;omega
theorem zlv {A B:Type} {f:A->List B}:∀ {l:List A},(l.flatMap f).Nodup->∀ x∈l,(f x).Nodup
 | [],_,x,hx=>by cases hx
 | y::l,h,x,hx=>by
  rw [List.flatMap_cons,List.nodup_append] at h;rcases List.mem_cons.1 hx with rfl | hx
  . exact h.1
  . exact zlv h.2.1 x hx
theorem znD {p:Plan} {i:Nat}:∀ {es acc acc':List zl},zfv p i es acc=some acc'->acc.Nodup->acc'.Nodup/\∀ e∈es,(0<=e.1/\e.1<=p.2.1.length-1)/\atS p e=(i:Int)
 | [],acc,acc',h,hn=>by cases h; exact ⟨hn,λe he=>(nomatch he)⟩
 | e::es,acc,acc',h,hn=>by
  unfold zfv at h;split at h
  . rename_i hk;unfold eOk at hk;simp only [Bool.and_eq_true,zI,beq_iff_eq,Bool.not_eq_true',decide_eq_false_iff_not] at hk;obtain ⟨k1,k2,k3⟩:=hk;have hn':(acc++[e]).Nodup:=by
     rw [List.nodup_append];refine ⟨hn,by simp,λa ha b hb=>?_⟩;rw [List.mem_singleton] at hb;subst hb;exact λq=>k3 (q▸ha)
    obtain ⟨h1,h2⟩:=znD h hn';refine ⟨h1,λx hx=>?_⟩;rcases List.mem_cons.1 hx with rfl | hx
    . exact ⟨k1,k2⟩
    . exact h2 x hx
  . cases h
theorem znE {p:Plan}:∀ {ns:List zcb} {i:Nat} {acc acc':List zl},zhu p ns i acc=some acc'->acc.Nodup->acc'=acc++ns.flatMap (λn=>n.2.2.1)/\acc'.Nodup/\∀ (k:Nat) (h:k<ns.length),∀ e∈ns[k].2.2.1,(0<=e.1/\e.1<=p.2.1.length-1)/\atS p e=((i+k:Nat):Int)
 | [],i,acc,acc',h,hn=>by cases h; exact ⟨by simp,hn,λk hk=>(nomatch hk)⟩
 | n::ns,i,acc,acc',h,hn=>by
  rw [zhu] at h;cases hs:zfv p i n.2.2.1 acc with
  | none=>rw [hs] at h; cases h
  | some a=>
   rw [hs] at h;obtain ⟨a1,a2⟩:=znD hs hn;obtain ⟨b1,b2,b3⟩:=znE h a1;refine ⟨?_,b2,λk hk e he=>?_⟩
   ·rw [b1,zh5 hs]; simp
   ·cases k with
    | zero=>exact a2 e he
    | succ k=>
     have:=b3 k (by simpa using hk) e he;rw [show i+(k+1)=i+1+k by omega];exact this
structure zi7 (p:Plan):Prop where
 n:1<=p.1.length/\p.1.length<=300
 r:1<=p.2.1.length/\p.2.1.length<=400
 nb:p.1.all nodeB=true
 rb:p.2.1.all (zh3 p)=true
 at_:∀ (k:Nat) (h:k<p.1.length),∀ e∈p.1[k].2.2.1,(0<=e.1/\e.1<p.2.1.length)/\atS p e=(k:Int)
 ndp:(p.1.flatMap λn=>n.2.2.1).Nodup
 full:∀ e:zl,0<=e.1/\e.1<p.2.1.length->e∈p.1.flatMap λn=>n.2.2.1
def zze (R:Nat):List zl:=(List.range R).flatMap λr:Nat=>[((r:Int),false,()),((r:Int),true,())]
theorem zuX (R:Nat):(zze R).length=2*R:=by
 induction R with
 | zero=>rfl
 | succ R ih=>
  unfold zze at *
  rw [List.range_succ,List.flatMap_append,List.length_append,ih];simp;omega
theorem zpQ {R:Nat} {e:zl}:e∈zze R↔0<=e.1/\e.1<R:=by
 unfold zze;simp only [List.mem_flatMap,List.mem_range,List.mem_cons,List.not_mem_nil,or_false];constructor
 . rintro ⟨r,hr,rfl | rfl⟩<;>simp only []<;>omega
 . obtain ⟨r,b,⟨⟩⟩:=e;simp only [];intro h;refine ⟨r.toNat,by omega, ?_⟩;have:(r.toNat:Int)=r:=by omega
   rw [this];cases b
   . exact .inl rfl
   . exact .inr rfl
theorem zdm {p:Plan} (h:zat p=true):zi7 p:=by
 unfold zat at h;simp only [Bool.and_eq_true,zI,zp] at h;obtain ⟨⟨⟨h1,h2⟩,h3,h4⟩,h5⟩:=h;unfold zuU at h5;cases hs:zhu p p.1 0 [] with
 | none=>rw [hs] at h5; cases h5
 | some acc=>
  rw [hs] at h5;have h5:=of_decide_eq_true h5;obtain ⟨a1,a2,a3⟩:=znE hs List.nodup_nil;rw [List.nil_append] at a1;subst a1;have hat:∀ (k:Nat) (h:k<p.1.length),∀ e∈p.1[k].2.2.1,(0<=e.1/\e.1<p.2.1.length)/\atS p e=(k:Int):=λk hk e he=>by
   obtain ⟨b1,b2⟩:=a3 k hk e he;rw [Nat.zero_add] at b2;exact ⟨⟨b1.1,by omega⟩,b2⟩
  refine ⟨by omega,by omega,h3,h4,hat,a2,λe he=>?_⟩;refine zoW (m:=zze p.2.1.length) a2 (λx hx=>?_) (by rw [zuX]; omega) (zpQ.2 he);obtain ⟨n,hn,hx⟩:=List.mem_flatMap.1 hx;obtain ⟨k,hk,rfl⟩:=List.getElem_of_mem hn;exact zpQ.2 (hat k hk x hx).1
section
variable {p:Plan} (hp:zi7 p)
include hp
theorem zi7.rail {i:Int} (hi:0<=i/\i<p.2.1.length):zh3 p (rl0 p i)=true:=by
 have hlt:i.toNat<p.2.1.length:=by omega
 have:rl0 p i=p.2.1[i.toNat]:=by unfold rl0; simp [List.getD,hlt]
 rw [this];exact List.all_eq_true.1 hp.rb _ (List.getElem_mem hlt)
theorem zi7.ix {i:Int} (hi:0<=i/\i<p.2.1.length):RIx p (rl0 p i):=by
 have:=hp.rail hi;unfold zh3 at this;rw [Bool.and_eq_true] at this;exact zmn this.1
theorem zi7.at_bd {e:zl} (he:0<=e.1/\e.1<p.2.1.length):0<=atS p e/\atS p e<p.1.length:=by
 have:=hp.ix he;unfold atS;split
 . exact this.t
 . exact this.f
theorem zi7.nd_eq {i:Int} (hi:0<=i/\i<p.1.length):nd p i=p.1[i.toNat]'(by omega):=by
 have _:=hp;have hlt:i.toNat<p.1.length:=by omega
 unfold Sx.nd;simp [List.getD,hlt]
theorem zi7.nodeB {i:Int} (hi:0<=i/\i<p.1.length):Sx.nodeB (Sx.nd p i)=true:=by
 rw [hp.nd_eq hi];exact List.all_eq_true.1 hp.nb _ (List.getElem_mem _)
theorem zi7.mem {e:zl} (he:0<=e.1/\e.1<p.2.1.length):e∈(Sx.nd p (atS p e)).2.2.1:=by
 obtain ⟨n,hn,hx⟩:=List.mem_flatMap.1 (hp.full e he);obtain ⟨k,hk,rfl⟩:=List.getElem_of_mem hn;have h1:=(hp.at_ k hk e hx).2;rw [h1,hp.nd_eq (by omega)];exact hx
theorem zi7.ndn {i:Int} (hi:0<=i/\i<p.1.length):(Sx.nd p i).2.2.1.Nodup:=by
 rw [hp.nd_eq hi];exact zlv hp.ndp _ (List.getElem_mem _)
theorem zi7.spots {i:Int} (hi:0<=i/\i<p.2.1.length):(zea p (rl0 p i)).all zc1=true/\zml (zea p (rl0 p i))=true:=by
 have:=hp.rail hi;unfold zh3 at this;simp only [Bool.and_eq_true] at this;exact this.2
theorem zi7.len {i:Int} (hi:0<=i/\i<p.2.1.length):1<=zxE (zea p (rl0 p i))/\zxE (zea p (rl0 p i))<=31000000:=by
 obtain ⟨h1,h2⟩:=hp.spots hi;have h3:=(hp.ix hi).s;have h4:=zgM p (rl0 p i);unfold zml at h2;have h5:∀ j,1<=j->j<1+((zea p (rl0 p i)).length-1)->1<=zxD (zea p (rl0 p i)) j/\zxD (zea p (rl0 p i)) j<=1000000:=λj j1 j2=>by
  have:=List.all_eq_true.1 h2 (j-1) (List.mem_range.2 (by omega));unfold zuR at this;rw [show j-1+1=j by omega] at this;exact zI.1 this
 have h6:=ziJ (f:=zxD (zea p (rl0 p i))) (B:=1000000) ((zea p (rl0 p i)).length-1) 1 (λj j1 j2=>by have:=h5 j j1 j2; omega);unfold zxE;refine ⟨?_,by omega⟩;rw [show (zea p (rl0 p i)).length-1=(rl0 p i).2.2.1.length+1 by omega,zib];have:=h5 1 (by omega) (by omega);have:=ziJ (f:=zxD (zea p (rl0 p i))) (B:=1000000) ((rl0 p i).2.2.1.length) (1+1) (λj j1 j2=>by have:=h5 j (by omega) (by omega); omega);omega
end
end Go.Ai.Sx
/- Tracks: a network; which moves follow. -/
namespace Go.Ai.Sx
open Option renaming bind->Zb,bind_some->Zs
theorem zst {xs:List Int} {i:Nat} (h:i+1<xs.length):((xs.set (i+1) (xs[i]'(by omega))).set i xs[i+1]).Perm xs:=by
 induction i generalizing xs with
 | zero=>
  match xs,h with
  | a::b::t,_=>exact List.Perm.swap a b t
 | succ i ih=>
  match xs,h with
  | a::t,h=>
   simp only [List.length_cons] at h;simp only [List.set_cons_succ,List.getElem_cons_succ];exact List.Perm.cons a (ih (by omega))
theorem zxI (a b:Int):∃ c:Bool,zaQ a b=some c:=by
 unfold zaQ;simp only [zda,Zs];cases decide (a<b)<;>(try exact ⟨_,rfl⟩)<;>(by_cases h:a=a<;>simp)
theorem zuY {xs:List Int} (hl:xs.length<=1000):∃ ys,zT xs 0 (zm xs)=some ys/\ys.Perm xs:=by
  have hin:∀ (j:Nat) (ys:List Int),j<ys.length->ys.length=xs.length->ys.Perm xs->Tot (λzs:List Int=>zs.Perm xs) (iter (σ:=(Int×(List Int))) (τ:=(List Int)) (λs190=>
cond (decide (s190.1>0)) (Zb (idx s190.2 s190.1) λx201=>
Zb (idx s190.2 (w64 (s190.1-1))) λx202=>
Zb (zaQ x201 x202) λy203=>
cond (y203) (Zb (idx s190.2 (w64 (s190.1-1))) λx209=>
Zb (idx s190.2 s190.1) λx210=>
Zb (idx s190.2 s190.1) λx211=>
Zb (idx ((s190.2).set (Int.toNat s190.1) x209) (w64 (s190.1-1))) λx212=>
some (.inl ((w64 (s190.1-1)),((s190.2).set (Int.toNat s190.1) x209).set (Int.toNat (w64 (s190.1-1))) x210))) (some (.inr s190.2))) (some (.inr s190.2))) big (((j:Nat):Int),ys)):=by
    intro j ys hj hly hp;refine Tot.iter (λs:Int×List Int=>∃ k:Nat,s.1=(k:Int)/\k<s.2.length/\s.2.length=xs.length/\s.2.Perm xs) _ (λs=>s.1.toNat) ⟨j,rfl,hj,hly,hp⟩ (by simp only [big]; omega) ?_
    rintro ⟨s1,zs⟩ ⟨k,rfl,hk,hlz,hpz⟩
    simp only [] at hk hlz hpz ⊢;cases k with
    | zero=>exact Tot.some hpz
    | succ k=>
      rw [decide_eq_true (show ((k+1:Nat):Int)>0 by omega),cond_true,zbD hk,Zs,zh (n:=((k+1:Nat):Int)-1) (by omega) (by omega),show ((k+1:Nat):Int)-1=(k:Int) by omega,zbD (show k<zs.length by omega),Zs];obtain ⟨c,hc⟩:=zxI zs[k+1] (zs[k]'(by omega));rw [hc,Zs];cases c with
      | false=>exact Tot.some hpz
      | true=>
        simp only [cond_true,Zs,Int.toNat_natCast];rw [zbD (show k<(zs.set (k+1) (zs[k]'(by omega))).length by rw [List.length_set]; omega),Zs];refine Tot.some ⟨⟨k,rfl, ?_, ?_, ?_⟩, ?_⟩
        · simp only [List.length_set]; omega
        · simp only [List.length_set]; exact hlz
        · exact (zst hk).trans hpz
        · simp only [Int.toNat_natCast]; omega
  unfold zT;have:Tot (λzs:List Int=>zs.Perm xs) (iter (σ:=(Int×(List Int))) (τ:=(List Int)) (λs143=>
cond (decide (s143.1<(zm xs))) (Zb (iter (σ:=(Int×(List Int))) (τ:=(List Int)) (λs190=>
cond (decide (s190.1>0)) (Zb (idx s190.2 s190.1) λx201=>
Zb (idx s190.2 (w64 (s190.1-1))) λx202=>
Zb (zaQ x201 x202) λy203=>
cond (y203) (Zb (idx s190.2 (w64 (s190.1-1))) λx209=>
Zb (idx s190.2 s190.1) λx210=>
Zb (idx s190.2 s190.1) λx211=>
Zb (idx ((s190.2).set (Int.toNat s190.1) x209) (w64 (s190.1-1))) λx212=>
some (.inl ((w64 (s190.1-1)),((s190.2).set (Int.toNat s190.1) x209).set (Int.toNat (w64 (s190.1-1))) x210))) (some (.inr s190.2))) (some (.inr s190.2))) big (s143.1,s143.2)) λt214=>
some (.inl ((w64 (s143.1+1)),t214))) (some (.inr s143.2))) big ((w64 (0+1)),xs)):=by
    refine Tot.iter (λs:Int×List Int=>∃ k:Nat,s.1=(k:Int)/\s.2.length=xs.length/\s.2.Perm xs) _ (λs=>xs.length+1-s.1.toNat) ⟨1,rfl,rfl,List.Perm.refl _⟩ (by simp only [big]; omega) ?_
    rintro ⟨s1,zs⟩ ⟨k,rfl,hlz,hpz⟩
    simp only [] at hlz hpz ⊢;by_cases hk:k<xs.length
    · rw [zF hk,cond_true];refine (hin k zs (by omega) hlz hpz).bind λys hys=>?_;refine Tot.some ⟨⟨k+1,zy (by omega),hys.length_eq,hys⟩, ?_⟩;simp only [zy (show k<9223372036854775807 by omega),Int.toNat_natCast];omega
    · rw [decide_eq_false (show ¬ (k:Int)<zm xs by rw [zp]; omega)];exact Tot.some hpz
  obtain ⟨ys,h1,h2⟩:=this;exact ⟨ys,by rw [h1]; rfl,h2⟩
theorem zsu (n:Nat) (h:n<=4):∃ k,zd4 (IntKind.u64.wrap (n:Int))=some k:=by
 match n,h with
 | 0,_=>exact ⟨0,by kernel_rfl⟩
 | 1,_=>exact ⟨1,by kernel_rfl⟩
 | 2,_=>exact ⟨2,by kernel_rfl⟩
 | 3,_=>exact ⟨2,by kernel_rfl⟩
 | 4,_=>exact ⟨3,by kernel_rfl⟩
theorem zsv {xs:List Int} (hl:xs.length<=4):∃ ys,zbJ xs=some ys/\ys.Perm xs:=by
 obtain ⟨k,hk⟩:=zsu xs.length hl;obtain ⟨ys,h1,h2⟩:=zuY (xs:=xs) (by omega);refine ⟨ys, ?_,h2⟩;unfold zbJ;rw [show zm xs=(xs.length:Int) from rfl,hk,Zs];unfold za3;have hL:Lp (λs11:Int×Int×Int×Bool×Bool×List Int=>
cond (decide ((w64 (s11.2.1-s11.1))<=12)) (Zb (zT s11.2.2.2.2.2 s11.1 s11.2.1) λy14=>
some (Sum.inr y14)) (cond (s11.2.2.1==0) (none) (cond (!s11.2.2.2.1) (none) (none)))) 0 (0,(xs.length:Int),k,true,true,xs) ys:=by
  refine Lp.done ?_;simp only [];rw [zh (by omega) (by omega),decide_eq_true (by omega),cond_true,show ((xs.length:Nat):Int)=zm xs from rfl,h1];rfl
 rw [hL.big (by simp only [big]; omega)];rfl
end Go.Ai.Sx
/- Tracks: a network; which moves follow; ways. -/
namespace Go.Ai.Sx
open Option renaming bind->Zb,bind_some->Zs
theorem ziK {A B:Type} [DecidableEq A] (v:B) (a b:A):∀ es:List (A×B),mget (mset es a v) b=if b=a then some v else mget es b
 | []=>rfl
 | (k,w)::es=>by
  rw [mset];by_cases h:a=k
  . subst h;rw [if_pos rfl,mget,mget];by_cases h2:b=a
    . rw [if_pos h2,if_pos h2]
    . rw [if_neg h2,if_neg h2,if_neg h2]
  . rw [if_neg h,mget,ziK v a b es,mget];by_cases h2:b=k
    . subst h2;rw [if_pos rfl,if_pos rfl,if_neg (λq=>h q.symm)]
    . rw [if_neg h2,if_neg h2]
theorem znF {A B:Type} [DecidableEq A]:∀ (L:List (A×B)) (m:List (A×B)) (e:A) (k:B),(L.map (·.1)).Nodup->(e,k)∈L->mget (L.foldl (λm x=>mset m x.1 x.2) m) e=some k
 | (a,v)::L,m,e,k,hn,h=>by
  rw [List.map_cons,List.nodup_cons] at hn;rw [List.foldl_cons];rcases List.mem_cons.1 h with q | q
  ·obtain ⟨q1,q2⟩:=Prod.mk.injEq ..▸q;subst q1 q2;have key:∀ (L:List (A×B)) (m:List (A×B)),e∉L.map (·.1)->mget (L.foldl (λm x=>mset m x.1 x.2) m) e=mget m e:=by
    intro L;induction L with
    | nil=>intro m _; rfl
    | cons y L ih=>
     intro m hne;rw [List.map_cons,List.mem_cons,not_or] at hne;rw [List.foldl_cons,ih _ hne.2,ziK,if_neg hne.1]
   rw [key L _ hn.1,ziK,if_pos rfl]
  ·exact znF L _ e k hn.2 q
def rlN {A:Type} (n:Nat) (f:Nat->A):List A:=(List.range n).map f
def ixE (n:zcb):List (zl×Int):=n.2.2.1.zipIdx.map λx=>(x.1,(x.2:Int))
def plS (p:Plan):List (zl×Int):=(p.1.flatMap ixE).foldl (λm x=>mset m x.1 x.2) []
def zhb (p:Plan) (i:Int):Int:=zxE (zea p (rl0 p i))
def zoX (p:Plan):za2:=((p.1,p.2.1,()),rlN p.2.1.length (λi=>zhb p (i:Int)),plS p,())
theorem zuZ (n:zcb):(ixE n).map (·.1)=n.2.2.1:=by
 unfold ixE;rw [List.map_map];have:((λx:zl×Int=>x.1) ∘ λx:zl×Nat=>(x.1,(x.2:Int)))=λx=>x.1:=rfl;rw [this,List.zipIdx_map_fst]
theorem zxJ {p:Plan} (hp:zi7 p) {i k:Nat} (hi:i<p.1.length) (hk:k<p.1[i].2.2.1.length):mget (plS p) p.1[i].2.2.1[k]=some (k:Int):=by
 unfold plS;refine znF _ _ _ _ ?_ ?_
 . rw [List.map_flatMap];have:(p.1.flatMap λn=>(ixE n).map (·.1))=p.1.flatMap λn=>n.2.2.1:=by
    congr 1;funext n;exact zuZ n
   rw [this];exact hp.ndp
 . refine List.mem_flatMap.2 ⟨p.1[i],List.getElem_mem hi, ?_⟩;unfold ixE;exact List.mem_map.2 ⟨(p.1[i].2.2.1[k],k),List.mem_zipIdx_iff_getElem?.2 (by simp [hk]),rfl⟩
theorem zsw (p:Plan):zdO p=some (if zat p then (some (zoX p),true) else (none,false)):=by
 unfold zdO;rw [znC];cases hv:zat p with
 | false=>rfl
 | true=>
 have hp:=zdm hv;have hN:=hp.n;have hR:=hp.r;simp only [if_true,Zs,show ((0:Int)!=0)=false from rfl,cond_false]
 -- the lengths
 rw [zcE (s0:=((0:Int),([]:List Int))) p.2.1 (λk c=>((k:Int),c)) (λi c _=>(.inl (c++[zhb p (i:Int)]):List Int⊕List Int)) id (λk c=>c.length=k) [] rfl (by omega) rfl];rotate_left
 . intro i hi c hc;simp only [];refine ⟨?_,λb' hb=>by cases hb; rw [List.length_append,List.length_singleton,hc]⟩;have hrl:rl0 p (i:Int)=p.2.1[i]:=by unfold rl0; simp [List.getD,hi]
   have hix:=hp.ix (i:=(i:Int)) (by omega);have hsp:=hp.spots (i:=(i:Int)) (by omega);rw [zF hi,cond_true,zbD hi,Zs,← hrl,zso hix,Zs,zpN hsp.1 (by rw [zgM]; have:=hix.s; omega) (sp:=λa b=>zcJ a b) (λa b=>zsn),Zs,zaF (by simp only [List.length_singleton]; omega),Zs,zy (by omega)];rfl
 . intro c _;simp only [];rw [zG,cond_false]; rfl
 have hlens:ze2 (λi c (_:Rail)=>(.inl (c++[zhb p (i:Int)]):List Int⊕List Int)) id p.2.1 0 []=rlN p.2.1.length (λi=>zhb p (i:Int)):=by
  have key:∀ (l:List Rail) (i:Nat) (c:List Int),ze2 (λi c (_:Rail)=>(.inl (c++[zhb p (i:Int)]):List Int⊕List Int)) id l i c=c++(List.range' i l.length).map (λi:Nat=>zhb p (i:Int)):=by
   intro l;induction l with
   | nil=>intro i c; simp [ze2]
   | cons x l ih=>
    intro i c;rw [ze2];exact (ih (i+1) _).trans (by rw [List.length_cons,List.range'_succ,List.map_cons,List.append_assoc]; rfl)
  rw [key,List.nil_append,← List.range_eq_range']; rfl
 rw [hlens,Zs]
 -- the places
 rw [zcE (s0:=((0:Int),([]:List (zl×Int)))) p.1 (λk c=>((k:Int),c)) (λ_ c n=>(.inl ((ixE n).foldl (λm x=>mset m x.1 x.2) c):List (zl×Int)⊕List (zl×Int))) id (λ_ _=>True) [] rfl (by omega) trivial];rotate_left
 . intro i hi c _;simp only [];refine ⟨?_,λ_ _=>trivial⟩;have hes:=zeN (List.all_eq_true.1 hp.nb _ (List.getElem_mem hi));rw [zF hi,cond_true,zbD hi,Zs];rw [zcE (s0:=((0:Int),c)) p.1[i].2.2.1 (λk c=>((k:Int),c)) (λk c e=>(.inl (mset c e (k:Int)):List (zl×Int)⊕List (zl×Int))) id (λ_ _=>True) c rfl (by omega) trivial]
   . rw [zkh (λk c e=>mset c e (k:Int)) id,Zs,zy (by omega)];unfold ixE;rw [List.foldl_map]; rfl
   . intro k hk c _;simp only [];refine ⟨?_,λ_ _=>trivial⟩;rw [zF hk,cond_true,zbD hk,Zs,zy (by omega)]
   . intro c _;simp only [];rw [zG,cond_false]; rfl
 . intro c _;simp only [];rw [zG,cond_false]; rfl
 rw [zfd (λc n=>(ixE n).foldl (λm x=>mset m x.1 x.2) c) id,Zs];have hpl:p.1.foldl (λc n=>(ixE n).foldl (λm x=>mset m x.1 x.2) c) []=plS p:=by
  unfold plS;rw [List.foldl_flatMap]
 rw [hpl];rfl
def ziL (n:zcb) (a b:Int):Bool:=
 if n.2.1=2 then a !=b else if n.2.1=3 then a !=b&&((a+b).tmod 2==0) else if n.2.1=4 then (a==0&&decide (b>0))||(decide (a>0)&&b==0)
 else if n.2.1=5 then (a==0&&b==n.2.2.2.1)||(decide (a>0)&&b==0) else if n.2.1=6 then (a==0&&b==n.2.2.2.1)||(a==n.2.2.2.1&&b==0) else false
theorem zu0 (n:zcb) {a b:Int} (ha:0<=a/\a<=10) (hb:0<=b/\b<=10):zeI n a b=some (ziL n a b):=by
 unfold zeI ziL;by_cases h2:n.2.1=2
 . rw [h2]; rfl
 by_cases h3:n.2.1=3
 . rw [h3];simp only [show ((3:Int)==2)=false from rfl,show ((3:Int)==3)=true from rfl,cond_false,cond_true,show ¬ (3:Int)=2 by decide,if_false,if_true];rw [zh (by omega) (by omega)];cases (a !=b)<;>rfl
 by_cases h4:n.2.1=4
 . rw [h4];simp only [show ((4:Int)==2)=false from rfl,show ((4:Int)==3)=false from rfl,show ((4:Int)==4)=true from rfl,cond_false,cond_true,show ¬ (4:Int)=2 by decide,show ¬ (4:Int)=3 by decide,if_false,if_true];cases (a==0)<;>cases decide (b>0)<;>cases decide (a>0)<;>cases (b==0)<;>rfl
 by_cases h5:n.2.1=5
 . rw [h5];simp only [show ((5:Int)==2)=false from rfl,show ((5:Int)==3)=false from rfl,show ((5:Int)==4)=false from rfl,show ((5:Int)==5)=true from rfl,cond_false,cond_true,show ¬ (5:Int)=2 by decide,show ¬ (5:Int)=3 by decide,show ¬ (5:Int)=4 by decide,if_false,if_true];cases (a==0)<;>cases (b==n.2.2.2.1)<;>cases decide (a>0)<;>cases (b==0)<;>rfl
 by_cases h6:n.2.1=6
 . rw [h6];simp only [show ((6:Int)==2)=false from rfl,show ((6:Int)==3)=false from rfl,show ((6:Int)==4)=false from rfl,show ((6:Int)==5)=false from rfl,show ((6:Int)==6)=true from rfl,cond_false,cond_true,show ¬ (6:Int)=2 by decide,show ¬ (6:Int)=3 by decide,show ¬ (6:Int)=4 by decide,show ¬ (6:Int)=5 by decide,if_false,if_true];cases (a==0)<;>cases (b==n.2.2.2.1)<;>cases (a==n.2.2.2.1)<;>cases (b==0)<;>rfl
 rw [if_neg h2,if_neg h3,if_neg h4,if_neg h5,if_neg h6];have e2:(n.2.1==2)=false:=by simpa using h2
 have e3:(n.2.1==3)=false:=by simpa using h3
 have e4:(n.2.1==4)=false:=by simpa using h4
 have e5:(n.2.1==5)=false:=by simpa using h5
 have e6:(n.2.1==6)=false:=by simpa using h6
 rw [e2,e3,e4,e5,e6]; rfl
theorem zxK {n:zcb} (h:nodeB n=true):n.2.1=1\/n.2.1=2\/n.2.1=3\/n.2.1=4\/n.2.1=5\/n.2.1=6:=by
 unfold nodeB at h;simp only [Bool.and_eq_true,bne_iff_ne] at h;have h1:=h.1.1.2;apply Classical.byContradiction;intro q;exact h1 (zkk (by omega))
theorem zxL {n:zcb} (hn:nodeB n=true) {a b:Int} (ha:0<=a/\a<=10) (hb:0<=b/\b<=10):za8 (n,()) a b=some (ziL n a b):=by
 unfold za8 ziL;rcases zxK hn with h | h | h | h | h | h
 . rw [h]; rfl
 . rw [h]; rfl
 . rw [h];show Zb (zbI (n,()) a b) _=_;unfold zbI;rw [zh (by omega) (by omega)];cases (a !=b)<;>rfl
 . rw [h];show Zb (zb5 (n,()) a b) _=_;unfold zb5;have e:(a !=b&&((a==0)||(b==0)))=((a==0&&decide (b>0))||(decide (a>0)&&b==0)):=by
    rw [Bool.eq_iff_iff];simp only [Bool.and_eq_true,Bool.or_eq_true,bne_iff_ne,beq_iff_eq,decide_eq_true_eq];omega
   simp only [show ¬ (4:Int)=2 by decide,show ¬ (4:Int)=3 by decide,if_false,if_true];rw [← e];cases (a !=b)<;>cases (a==0)<;>rfl
 . rw [h];show Zb (zbi (n,()) a b) _=_;unfold zbi;have e:((a !=0&&b==0)||(a==0&&b==n.2.2.2.1))=((a==0&&b==n.2.2.2.1)||(decide (a>0)&&b==0)):=by
    rw [Bool.eq_iff_iff];simp only [Bool.and_eq_true,Bool.or_eq_true,bne_iff_ne,beq_iff_eq,decide_eq_true_eq];omega
   simp only [show ¬ (5:Int)=2 by decide,show ¬ (5:Int)=3 by decide,show ¬ (5:Int)=4 by decide,if_false,if_true];rw [← e];cases (a !=0)<;>cases (b==0)<;>cases (a==0)<;>rfl
 . rw [h];show Zb (zbj (n,()) a b) _=_;unfold zbj;simp only [show ¬ (6:Int)=2 by decide,show ¬ (6:Int)=3 by decide,show ¬ (6:Int)=4 by decide,show ¬ (6:Int)=5 by decide,if_false,if_true];cases (a==0)<;>cases (b==n.2.2.2.1)<;>cases (a==n.2.2.2.1)<;>rfl
end Go.Ai.Sx