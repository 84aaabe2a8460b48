/- Motion: what is as defined. -/
import Derived.Test.YtcokdbcdlaofbaaGreatQ12
import Derived.Test.YtcokdbcdlaofbaaGreatQ9
set_option linter.unusedSimpArgs false
set_option linter.unusedVariables false
set_option linter.unusedSectionVars false
namespace Go.Ai.Sx
def inB (n a b:Int):Bool:=decide (a ≤ n) && decide (n ≤ b)
theorem zo3 {n a b:Int}:inB n a b = true ↔ a ≤ n ∧ n ≤ b:=by
 unfold inB
 rw [Bool.and_eq_true,decide_eq_true_eq,decide_eq_true_eq]
theorem zu10 (n a b:Int):(Option.bind (cond (decide (n ≥ a)) (some (decide (n ≤ b))) (some false)) fun c2=>some c2) = some (inB n a b):=by
 unfold inB
 by_cases h:a ≤ n <;> simp [h]
theorem mwithin (n a b:Int):zn n a b = some (inB n a b):=zu10 n a b
theorem rin (n a b:Int):zt2 n a b = some (inB n a b):=zu10 n a b
theorem zi16 {A:Type} (s:List A) (hs:s.length ≤ 9223372036854775807) (f:A → Option Bool) (p:A → Bool) (hf:∀ x ∈ s,f x = some (p x)) :
    ∃ k:Int,(Option.bind (iter (σ:=(Int)) (τ:=Unit ⊕ (Int)) (fun s5 =>
cond ((decide (s5 < (lenI s)))) (Option.bind (idx s s5) fun x8 =>
Option.bind (f x8) fun y9 =>
cond (y9) (some (.inr ((.inr s5)))) (some (.inl ((w64 (s5 + 1)))))) (some (.inr ((.inl (())))))) big 0) fun t11 =>
alt (fun b13=>some ((-1))) (fun b14=>some b14) t11) = some k ∧ decide (k ≥ 0) = s.any p:=by
  rw [zh16 s.length (fun i:Nat=>match s[i]? with | some x=>if p x then some (i:Int) else none | none=>none) (by simp only [big]; omega)]
  · cases h:(List.range s.length).findSome? (fun i:Nat=>match s[i]? with | some x=>if p x then some (i:Int) else none | none=>none) with
    | none =>
      simp only [Option.bind_some,alt]
      refine ⟨-1,rfl, ?_⟩
      have:s.any p = false:=by
        rw [List.any_eq_false]
        intro x hx hp
        obtain ⟨i,hi,rfl⟩:=List.getElem_of_mem hx
        rw [List.findSome?_eq_none_iff] at h
        have:=h i (List.mem_range.2 hi)
        rw [List.getElem?_eq_getElem hi] at this
        simp only [hp,if_true] at this
        cases this
      rw [this]
      rfl
    | some k =>
      simp only [Option.bind_some,alt]
      refine ⟨k,rfl, ?_⟩
      obtain ⟨i,hi,h2⟩:=List.exists_of_findSome?_eq_some h
      have hi:=List.mem_range.1 hi
      rw [List.getElem?_eq_getElem hi] at h2
      simp only [] at h2
      split at h2
      · rename_i hp
        cases h2
        rw [decide_eq_true (Int.natCast_nonneg i)]
        exact (List.any_eq_true.2 ⟨_,List.getElem_mem hi,hp⟩).symm
      · cases h2
  · intro i hi
    rw [decide_eq_true (show (i:Int) < lenI s by rw [zo1]; omega),cond_true,zr3 hi,Option.bind_some,hf _ (List.getElem_mem hi),Option.bind_some,List.getElem?_eq_getElem hi]
    simp only []
    rw [zh (by omega) (by omega)]
    cases p s[i] <;> rfl
  · rw [decide_eq_false (show ¬ (s.length:Int) < lenI s by rw [zo1]; omega),cond_false]
theorem zu21 (s:List Int) (hs:s.length ≤ 9223372036854775807) (f:Int → Option Bool) (p:Int → Bool) (hf:∀ x ∈ s,f x = some (p x)):zc2 s f = some (s.any p):=by
 obtain ⟨k,h1,h2⟩:=zi16 s hs f p hf
 unfold zc2 zh3
 rw [h1,Option.bind_some,h2]
def trB (t:Train):Bool:=inB t.1 1000 80000 && inB t.2.1 1 60000 && inB t.2.2.1 1 25000 && inB t.2.2.2.1 1 200000 && inB t.2.2.2.2.1 1 200000 && inB t.2.2.2.2.2.1 1 2000000 && inB t.2.2.2.2.2.2.1 0 100000 && inB t.2.2.2.2.2.2.2.1 0 10000 && inB t.2.2.2.2.2.2.2.2.1 0 100 && (inB t.2.2.2.2.2.2.2.2.2.1.length 1 8 && t.2.2.2.2.2.2.2.2.2.1.all fun g=>inB g 1 1000)
theorem zr34 (t:Train):zm6 t = some (if trB t then 0 else 2):=by
 unfold zm6 trB
 simp only [mwithin,Option.bind_some,zo1]
 cases inB t.1 1000 80000
 ·rfl
 cases inB t.2.1 1 60000
 ·rfl
 cases inB t.2.2.1 1 25000
 ·rfl
 cases inB t.2.2.2.1 1 200000
 ·rfl
 cases inB t.2.2.2.2.1 1 200000
 ·rfl
 cases inB t.2.2.2.2.2.1 1 2000000
 ·rfl
 cases inB t.2.2.2.2.2.2.1 0 100000
 ·rfl
 cases inB t.2.2.2.2.2.2.2.1 0 10000
 ·rfl
 cases inB t.2.2.2.2.2.2.2.2.1 0 100
 ·rfl
 cases hl:inB (t.2.2.2.2.2.2.2.2.2.1.length:Int) 1 8
 ·rfl
 have hl:=zo3.1 hl
 simp only [Bool.not_true,cond_false,Option.bind_some,Bool.true_and]
 rw [zu21 _ (by omega) _ (fun g=>!inB g 1 1000) (fun x _=>by unfold zt6; rw [mwithin]; rfl)]
 simp only [Option.bind_some]
 rw [List.any_eq_not_all_not]
 simp only [Bool.not_not]
 cases t.2.2.2.2.2.2.2.2.2.1.all fun g=>inB g 1 1000 <;> rfl
theorem zj10 {ρ:Type} {f:Int → Option (Int ⊕ (Unit ⊕ ρ))} {A:Type} (l:List A) (p:A → Bool) (r0:ρ) (hN:l.length ≤ 9223372036854775807) (hf:∀ (i:Nat) (h:i < l.length),f i = some (if p l[i] then .inl ((i:Int) + 1) else .inr (.inr r0))) (he:f l.length = some (.inr (.inl ()))) :
    iter f big 0 = some (if l.all p then .inl () else .inr r0):=by
  rw [zq34 l.length (fun i=>if h:i < l.length then p l[i] else true) r0 (by simp only [big]; omega) (fun i hi=>by rw [hf i hi,dif_pos hi]) he]
  congr 1
  have:((List.range l.length).all fun i=>if h:i < l.length then p l[i] else true) = l.all p:=by
    rw [Bool.eq_iff_iff,List.all_eq_true,List.all_eq_true]
    constructor
    · intro h x hx
      obtain ⟨i,hi,rfl⟩:=List.getElem_of_mem hx
      have:=h i (List.mem_range.2 hi)
      rwa [dif_pos hi] at this
    · intro h i hi
      have hi:=List.mem_range.1 hi
      rw [dif_pos hi]
      exact h _ (List.getElem_mem hi)
  rw [this]
theorem zz24 (t:Train):zp3 t = some (trB t):=by
 unfold zp3 trB
 simp only [rin,Option.bind_some]
 rw [show ((t.2.2.2.2.2.2.2.2.2.1.length:Nat):Int) = lenI t.2.2.2.2.2.2.2.2.2.1 from rfl]
 cases inB t.1 1000 80000
 ·rfl
 cases inB t.2.1 1 60000
 ·rfl
 cases inB t.2.2.1 1 25000
 ·rfl
 cases inB t.2.2.2.1 1 200000
 ·rfl
 cases inB t.2.2.2.2.1 1 200000
 ·rfl
 cases inB t.2.2.2.2.2.1 1 2000000
 ·rfl
 cases inB t.2.2.2.2.2.2.1 0 100000
 ·rfl
 cases inB t.2.2.2.2.2.2.2.1 0 10000
 ·rfl
 cases inB t.2.2.2.2.2.2.2.2.1 0 100
 ·rfl
 cases hl:inB (lenI t.2.2.2.2.2.2.2.2.2.1) 1 8
 ·rfl
 have hl:=zo3.1 hl
 rw [zo1] at hl
 simp only [Bool.not_true,cond_false,Option.bind_some,Bool.true_and]
 rw [zj10 t.2.2.2.2.2.2.2.2.2.1 (fun g=>inB g 1 1000) false (by omega)]
 ·cases t.2.2.2.2.2.2.2.2.2.1.all fun g=>inB g 1 1000 <;> rfl
 ·intro i h
  rw [decide_eq_true (show (i:Int) < lenI t.2.2.2.2.2.2.2.2.2.1 by rw [zo1]; omega),cond_true,zr3 h,Option.bind_some,zh (by omega) (by omega)]
  cases inB _ 1 1000 <;> rfl
 ·rw [decide_eq_false (show ¬ ((t.2.2.2.2.2.2.2.2.2.1.length:Nat):Int) < lenI t.2.2.2.2.2.2.2.2.2.1 by rw [zo1]; omega),cond_false]
structure TrOk (t:Train):Prop where
 m:1000 ≤ t.1 ∧ t.1 ≤ 80000
 len:1 ≤ t.2.1 ∧ t.2.1 ≤ 60000
 sp:1 ≤ t.2.2.1 ∧ t.2.2.1 ≤ 25000
 ef:1 ≤ t.2.2.2.1 ∧ t.2.2.2.1 ≤ 200000
 br:1 ≤ t.2.2.2.2.1 ∧ t.2.2.2.2.1 ≤ 200000
 po:1 ≤ t.2.2.2.2.2.1 ∧ t.2.2.2.2.2.1 ≤ 2000000
 re:0 ≤ t.2.2.2.2.2.2.1 ∧ t.2.2.2.2.2.2.1 ≤ 100000
 ri:0 ≤ t.2.2.2.2.2.2.2.1 ∧ t.2.2.2.2.2.2.2.1 ≤ 10000
 ba:0 ≤ t.2.2.2.2.2.2.2.2.1 ∧ t.2.2.2.2.2.2.2.2.1 ≤ 100
 gl:1 ≤ (t.2.2.2.2.2.2.2.2.2.1.length:Int) ∧ (t.2.2.2.2.2.2.2.2.2.1.length:Int) ≤ 8
 gr:∀ g ∈ t.2.2.2.2.2.2.2.2.2.1,1 ≤ g ∧ g ≤ 1000
theorem zj16 {t:Train}:trB t = true ↔ TrOk t:=by
 unfold trB
 simp only [Bool.and_eq_true,zo3,List.all_eq_true]
 constructor
 ·rintro ⟨⟨⟨⟨⟨⟨⟨⟨⟨a,b⟩,c⟩,d⟩,e⟩,f⟩,g⟩,h⟩,i⟩,j,k⟩
  exact ⟨a,b,c,d,e,f,g,h,i,j,k⟩
 ·rintro ⟨a,b,c,d,e,f,g,h,i,j,k⟩
  exact ⟨⟨⟨⟨⟨⟨⟨⟨⟨a,b⟩,c⟩,d⟩,e⟩,f⟩,g⟩,h⟩,i⟩,j,k⟩
end Go.Ai.Sx
