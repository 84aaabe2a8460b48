/- Plain lemmas on the printed functions' loops. -/
import Derived.Test.YtnngmijajnldlaaGreatX5
set_option linter.unusedSimpArgs false
set_option linter.unusedVariables false
set_option linter.unusedSectionVars false
open Option renaming some→Ob,none→Oe
namespace Go.Ai.Sx
theorem zk {n:Int} (h1:-9223372036854775808<=n) (h2:n<=9223372036854775807):w64 n=n:=IntWalk.i64_in n ⟨h1,h2⟩
theorem zhY {A:Type} (xs:List A) (i:Nat):idx xs (i:Int)=xs[i]?:=by unfold idx; rw [if_pos J]; simp
theorem zd2 {A:Type} {xs:List A} {i:Nat} (h:i<xs.length):idx xs (i:Int)=Ob xs[i]:=by rw [zhY,List.getElem?_eq_getElem h]
theorem zsz {A:Type} {xs:List A} {i:Int} (h0:0<=i) (h:i<xs.length):idx xs i=Ob (xs[i.toNat]'J):=by
 unfold idx; rw [if_pos h0,List.getElem?_eq_getElem]
theorem zo {A:Type} (xs:List A):zq xs=(xs.length:Int):=rfl
theorem zu6 {A:Type} {xs:List A} {i j:Int} (h:0<=i/\i<=j/\j<=xs.length):slO xs i j=Ob ((xs.take j.toNat).drop i.toNat):=by unfold slO; rw [if_pos (by exact h)]
theorem zgH {A:Type} {bytes:Nat} {n:Int} {x:A} (h:0<=n/\(bytes:Int)*n<=2 ^ 47/\n<=2 ^ 62):mkO bytes n x=Ob (List.replicate n.toNat x):=by unfold mkO; rw [if_pos h]
theorem zbf {A:Type} {bytes:Nat} {xs ys:List A} (h:(xs.length+ys.length)*bytes<=2 ^ 46/\xs.length+ys.length<=2 ^ 62):zcY bytes xs ys=Ob (xs++ys):=by unfold zcY; rw [if_pos h]
theorem zAL {σ τ:Type} {f:σ->Option (σ⊕τ)} (I:σ->Prop) (P:τ->Prop) (m:σ->Nat) (h:∀ s,I s->(∃ s',f s=Ob (.inl s')/\I s'/\m s'<m s)\/∃ t,f s=Ob (.inr t)/\P t) :
    ∀ n s,I s->m s<n->∃ t,iter f n s=Ob t/\P t:=by
  intro n;induction n with
  | zero=>intro s _ hm; omega
  | succ n ih=>
    intro s hs hm;rcases h s hs with ⟨s',h1,h2,h3⟩ | ⟨t,h1,h2⟩
    · obtain ⟨t,h4,h5⟩:=ih s' h2 J;exact ⟨t,by simp only [iter,h1]; exact h4,h5⟩
    · exact ⟨t,by simp only [iter,h1],h2⟩
def zu7 {α β:Type} (Q:α->β->Prop) (a:Option α) (b:Option β):Prop:=∃ x y,a=Ob x/\b=Ob y/\Q x y
def Tot {α:Type} (P:α->Prop) (a:Option α):Prop:=∃ x,a=Ob x/\P x
theorem zu7.some {α β:Type} {Q:α->β->Prop} {x:α} {y:β} (h:Q x y):zu7 Q (Option.some x) (Option.some y):=⟨x,y,rfl,rfl,h⟩
theorem zu7.bind {α β γ W:Type} {Q:α->β->Prop} {P:γ->W->Prop} {a:Option α} {b:Option β} {k:α->Option γ} {k':β->Option W} (h:zu7 Q a b) (hk:∀ x y,Q x y->zu7 P (k x) (k' y)):zu7 P (a.bind k) (b.bind k'):=by
 obtain ⟨x,y,rfl,rfl,hq⟩:=h;exact hk x y hq
theorem Tot.some {α:Type} {P:α->Prop} {x:α} (h:P x):Tot P (Option.some x):=⟨x,rfl,h⟩
theorem Tot.bind {α γ:Type} {Q:α->Prop} {P:γ->Prop} {a:Option α} {k:α->Option γ} (h:Tot Q a) (hk:∀ x,Q x->Tot P (k x)):Tot P (a.bind k):=by
 obtain ⟨x,rfl,hq⟩:=h;exact hk x hq
def zBH {σ σ' τ τ':Type} (R:σ->σ'->Prop) (Q:τ->τ'->Prop) (m:σ->Nat) (s:σ):σ⊕τ->σ'⊕τ'->Prop
 | .inl u,.inl u'=>R u u'/\m u<m s
 | .inr t,.inr t'=>Q t t'
 | _,_=>False
def zxQ {σ τ:Type} (I:σ->Prop) (P:τ->Prop) (m:σ->Nat) (s:σ):σ⊕τ->Prop
 | .inl u=>I u/\m u<m s
 | .inr t=>P t
theorem zu7.iter {σ σ' τ τ':Type} {f:σ->Option (σ⊕τ)} {f':σ'->Option (σ'⊕τ')} (R:σ->σ'->Prop) (Q:τ->τ'->Prop) (m:σ->Nat) {n:Nat} {s:σ} {s':σ'} (hs:R s s') (hm:m s<n)
    (h:∀ s s',R s s'->zu7 (zBH R Q m s) (f s) (f' s')):zu7 Q (iter f n s) (iter f' n s'):=by
  induction n generalizing s s' with
  | zero=>omega
  | succ n ih=>
    obtain ⟨x,y,h1,h2,h3⟩:=h s s' hs;cases x with
    | inl u=>
      cases y with
      | inl u'=>
        obtain ⟨t,t',h5,h6,h7⟩:=ih h3.1 (by have:=h3.2; omega);exact ⟨t,t',by simp only [Sx.iter,h1]; exact h5,by simp only [Sx.iter,h2]; exact h6,h7⟩
      | inr t'=>exact h3.elim
    | inr t=>
      cases y with
      | inl u'=>exact h3.elim
      | inr t'=>exact ⟨t,t',by simp only [Sx.iter,h1],by simp only [Sx.iter,h2],h3⟩
theorem Tot.iter {σ τ:Type} {f:σ->Option (σ⊕τ)} (I:σ->Prop) (P:τ->Prop) (m:σ->Nat) {n:Nat} {s:σ} (hs:I s) (hm:m s<n)
    (h:∀ s,I s->Tot (zxQ I P m s) (f s)):Tot P (iter f n s):=by
  induction n generalizing s with
  | zero=>omega
  | succ n ih=>
    obtain ⟨x,h1,h3⟩:=h s hs;cases x with
    | inl u=>
      obtain ⟨t,h5,h7⟩:=ih h3.1 (by have:=h3.2; omega);exact ⟨t,by simp only [Sx.iter,h1]; exact h5,h7⟩
    | inr t=>exact ⟨t,by simp only [Sx.iter,h1],h3⟩
theorem zgI {G:Type} {f:Int->Option (Int⊕(Unit⊕G))} (N:Nat) (g:Nat->Option G) (hN:N<big) (hf:∀ i:Nat,i<N->f i=Ob (match g i with | none=>.inl ((i:Int)+1) | some r=>.inr (.inr r))) (he:f N=Ob (.inr (.inl ()))) :
    iter f big 0=Ob (match (List.range N).findSome? g with | none=>.inl () | some r=>.inr r):=by
  have key:∀ k n i:Nat,i+k=N->k<n->iter f n (i:Int)=Ob (match (List.range' i k).findSome? g with | none=>.inl () | some r=>.inr r):=by
    intro k;induction k with
    | zero=>
      intro n i hi hn;obtain ⟨n,rfl⟩:∃ q,n=q+1:=⟨n-1,by omega⟩;have:i=N:=J
      subst this;simp only [iter,he];simp
    | succ k ih=>
      intro n i hi hn;obtain ⟨n,rfl⟩:∃ q,n=q+1:=⟨n-1,by omega⟩;simp only [iter,hf i J,List.range'_succ,List.findSome?_cons];cases hg:g i with
      | none=>
        simp only [];have:=ih n (i+1) J J;simpa using this
      | some r=>rfl
  have:=key N big 0 J hN;rw [List.range_eq_range'];simpa using this
theorem zpO {G:Type} {f:Int->Option (Int⊕(Unit⊕G))} (N:Nat) (p:Nat->Bool) (r0:G) (hN:N<big) (hf:∀ i:Nat,i<N->f i=Ob (if p i then .inl ((i:Int)+1) else .inr (.inr r0))) (he:f N=Ob (.inr (.inl ()))) :
    iter f big 0=Ob (if (List.range N).all p then .inl () else .inr r0):=by
  rw [zgI N (λi=>if p i then Oe else Ob r0) hN (λi hi=>by rw [hf i hi]; cases p i<;>rfl) he];congr 1;cases h:(List.range N).all p with
  | true=>
    have:(List.range N).findSome? (λi=>if p i then Oe else Ob r0)=Oe:=by
      rw [List.findSome?_eq_none_iff];intro x hx;rw [List.all_eq_true] at h;rw [if_pos (h x hx)]
    rw [this]; rfl
  | false=>
    rw [List.all_eq_false] at h;obtain ⟨x,hx,hp⟩:=h;cases hq:(List.range N).findSome? (λi=>if p i then Oe else Ob r0) with
    | none=>
      rw [List.findSome?_eq_none_iff] at hq;have:=hq x hx;rw [if_neg hp] at this;cases this
    | some r=>
      obtain ⟨y,_,h2⟩:=List.exists_of_findSome?_eq_some hq;split at h2
      · cases h2
      · cases h2; rfl
theorem zkG {A:Type} (xs:List A) (q:A->Bool) (d:A):xs.any q=!((List.range xs.length).all λj=>!q (xs.getD j d)):=by
 rw [Bool.eq_iff_iff,Bool.not_eq_true',List.any_eq_true,List.all_eq_false];constructor
 . rintro ⟨x,hx,hq⟩
   obtain ⟨i,hi,rfl⟩:=List.getElem_of_mem hx;exact ⟨i,List.mem_range.2 hi,by simp [List.getD,hi,hq]⟩
 . rintro ⟨i,hi,hq⟩
   have hi:=List.mem_range.1 hi;refine ⟨xs[i],List.getElem_mem hi, ?_⟩;simpa [List.getD,hi] using hq
theorem zaV {A:Type} {l:List A} {i:Int} {d:A} (h0:0<=i) (h:i<l.length):idx l i=Ob (l.getD i.toNat d):=by
 have:i.toNat<l.length:=J
 rw [zsz h0 h]; simp [List.getD,this]
theorem zI {A:Type} {l:List A} {i:Nat} (d:A) (h:i<l.length):idx l (i:Int)=Ob (l.getD i d):=by
 rw [zhY]; simp [List.getD,h]
theorem zdN {α β γ:Type} {f:α->γ} {g:β->γ} {a:α}:alt f g (.inl a)=f a:=rfl
theorem zhZ {α β γ:Type} {f:α->γ} {g:β->γ} {b:β}:alt f g (.inr b)=g b:=rfl
end Go.Ai.Sx