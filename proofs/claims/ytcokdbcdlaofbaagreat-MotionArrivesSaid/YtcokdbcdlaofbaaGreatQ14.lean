/- Loops,told step by step. -/
import Derived.Test.YtcokdbcdlaofbaaGreatQ12
set_option linter.unusedSimpArgs false
set_option linter.unusedVariables false
set_option linter.unusedSectionVars false
namespace Go.Ai.Sx
def Lp {σ τ:Type} (f:σ → Option (σ ⊕ τ)) (N:Nat) (s:σ) (t:τ):Prop:=iter f (N + 1) s = some t
theorem Lp.done {σ τ:Type} {f:σ → Option (σ ⊕ τ)} {N:Nat} {s:σ} {t:τ} (h:f s = some (.inr t)):Lp f N s t:=by
 unfold Lp
 simp only [iter,h]
theorem Lp.step {σ τ:Type} {f:σ → Option (σ ⊕ τ)} {N:Nat} {s s':σ} {t:τ} (h:f s = some (.inl s')) (h2:Lp f N s' t):Lp f (N + 1) s t:=by
 unfold Lp at *
 rw [iter,h]
 exact h2
theorem zv21 {σ τ:Type} {f:σ → Option (σ ⊕ τ)}:∀ {n m:Nat} {s:σ} {t:τ},n ≤ m → iter f n s = some t → iter f m s = some t
 | 0,_,_,_,_,h=>by cases h
 | n + 1,0,_,_,hm,_=>by omega
 | n + 1,m + 1,s,t,hm,h=>by
  rw [iter] at h ⊢
  cases hs:f s with
  | none=>rw [hs] at h; cases h
  | some r =>
   rw [hs] at h
   cases r with
   | inl s'=>exact zv21 (n:=n) (by omega) h
   | inr t'=>exact h
theorem Lp.big {σ τ:Type} {f:σ → Option (σ ⊕ τ)} {N:Nat} {s:σ} {t:τ} (h:Lp f N s t) (hN:N < big):iter f big s = some t:=zv21 (by omega) h
def foldE {A β τ:Type} (st:Nat → β → A → β ⊕ τ) (fin:β → τ):List A → Nat → β → τ
 | [],_,b=>fin b
 | a :: l,i,b=>match st i b a with
  | .inl b'=>foldE st fin l (i + 1) b'
  | .inr t=>t
theorem zb6 {A β σ τ:Type} {f:σ → Option (σ ⊕ τ)} (l:List A) (mk:Nat → β → σ) (st:Nat → β → A → β ⊕ τ) (fin:β → τ) (I:Nat → β → Prop) (b0:β) {s0:σ} (hs:mk 0 b0 = s0) (hl:l.length ≤ 9223372036854775807) (h0:I 0 b0)
    (hf:∀ (i:Nat) (h:i < l.length) (b:β),I i b → f (mk i b) = some (match st i b l[i] with | .inl b'=>.inl (mk (i + 1) b') | .inr t=>.inr t) ∧ ∀ b',st i b l[i] = .inl b' → I (i + 1) b')
    (he:∀ b,I l.length b → f (mk l.length b) = some (.inr (fin b))):iter f big s0 = some (foldE st fin l 0 b0):=by
  subst hs
  have key:∀ (k i:Nat) (b:β),i + k = l.length → I i b → Lp f k (mk i b) (foldE st fin (l.drop i) i b):=by
    intro k
    induction k with
    | zero =>
      intro i b hi hb
      have:i = l.length:=by omega
      subst this
      rw [List.drop_length]
      exact Lp.done (he b hb)
    | succ k ih =>
      intro i b hi hb
      have hlt:i < l.length:=by omega
      obtain ⟨h1,h2⟩:=hf i hlt b hb
      rw [List.drop_eq_getElem_cons hlt,foldE]
      cases hst:st i b l[i] with
      | inl b' =>
        rw [hst] at h1
        exact Lp.step h1 (ih (i + 1) b' (by omega) (h2 b' hst))
      | inr t =>
        rw [hst] at h1
        exact Lp.done h1
  have:=key l.length 0 b0 (by omega) h0
  rw [List.drop_zero] at this
  exact this.big (by simp only [Sx.big]; omega)
theorem zk16 {A β τ:Type} (g:Nat → β → A → β) (fin:β → τ):∀ (l:List A) (i:Nat) (b:β),foldE (fun i b a=>(.inl (g i b a):β ⊕ τ)) fin l i b = fin ((l.zipIdx i).foldl (fun b x=>g x.2 b x.1) b)
 | [],i,b=>rfl
 | a :: l,i,b=>by
  rw [foldE]
  exact (zk16 g fin l (i + 1) (g i b a)).trans (by rw [List.zipIdx_cons,List.foldl_cons])
theorem zv10 {A β τ:Type} (g:β → A → β) (fin:β → τ):∀ (l:List A) (i:Nat) (b:β),foldE (fun _ b a=>(.inl (g b a):β ⊕ τ)) fin l i b = fin (l.foldl g b)
 | [],i,b=>rfl
 | a :: l,i,b=>by
  rw [foldE]
  exact (zv10 g fin l (i + 1) (g b a)).trans (by rw [List.foldl_cons])
theorem zr1 {A:Type} {l:List A} {i:Nat} (h:i < l.length):decide ((i:Int) < lenI l) = true:=decide_eq_true (by rw [zo1]; omega)
theorem zb2 {A:Type} {l:List A}:decide ((l.length:Int) < lenI l) = false:=decide_eq_false (by rw [zo1]; omega)
theorem zc1 {i:Nat} (h:i < 9223372036854775807):w64 ((i:Int) + 1) = ((i + 1:Nat):Int):=by rw [zh (by omega) (by omega)]; omega
theorem zp12 {σ τ:Type} {f:σ → Option (σ ⊕ τ)} (emb:Nat → σ) (N:Nat) (p:Nat → Bool) (r0 r1:τ) {s0:σ} (h0:emb 0 = s0) (hN:N < big) (hf:∀ i:Nat,i < N → f (emb i) = some (if p i then .inl (emb (i + 1)) else .inr r0)) (he:f (emb N) = some (.inr r1)) :
    iter f big s0 = some (if (List.range N).all p then r1 else r0):=by
  subst h0
  have key:∀ k n i:Nat,i + k = N → k < n → iter f n (emb i) = some (if (List.range' i k).all p then r1 else r0):=by
    intro k
    induction k with
    | zero =>
      intro n i hi hn
      obtain ⟨n,rfl⟩:∃ q,n = q + 1:=⟨n - 1,by omega⟩
      have:i = N:=by omega
      subst this
      simp only [iter,he]
      simp
    | succ k ih =>
      intro n i hi hn
      obtain ⟨n,rfl⟩:∃ q,n = q + 1:=⟨n - 1,by omega⟩
      simp only [iter,hf i (by omega),List.range'_succ,List.all_cons]
      cases hg:p i with
      | true =>
        simp only [if_true,Bool.true_and]
        exact ih n (i + 1) (by omega) (by omega)
      | false=>rfl
  have:=key N big 0 (by omega) hN
  rw [List.range_eq_range']
  exact this
end Go.Ai.Sx
