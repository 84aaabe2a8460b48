/- The duties: what one try to match a task does. -/
import Derived.Test.YtafbcffccnjgfaaM14
namespace Go.Ai.Sx.Du
def sb (l:List Bool) (b:Int):Bool := l.getD b.toNat false
def mb (l:List Int) (b:Int):Int := l.getD b.toNat (-1)
def cntM (l:List Int):Nat := l.countP fun x => decide (0 ≤ x)
def cntF (l:List Bool):Nat := l.countP fun x => !x
theorem zt11 {A:Type} {l:List A} {n:Nat} {a b:Int} {v d:A} (hl:l.length = n) (ha:InR n a) (hb:InR n b):(l.set a.toNat v).getD b.toNat d = if a = b then v else l.getD b.toNat d := by
 unfold InR at ha hb
 by_cases h:a = b
 ·subst h
  have:a.toNat < l.length := by omega
  simp [List.getD,this]
 ·have:a.toNat ≠ b.toNat := by omega
  simp [List.getD,List.getElem?_set,this,h]
theorem zr8 {l:List Bool} {n:Nat} {a b:Int} {v:Bool} (hl:l.length = n) (ha:InR n a) (hb:InR n b):sb (l.set a.toNat v) b = if a = b then v else sb l b := zt11 hl ha hb
theorem zk6 {l:List Int} {n:Nat} {a b:Int} {v:Int} (hl:l.length = n) (ha:InR n a) (hb:InR n b):mb (l.set a.toNat v) b = if a = b then v else mb l b := zt11 hl ha hb
theorem ze8 {A:Type} (p:A → Bool) (d:A):∀ (l:List A) (i:Nat) (x:A),i < l.length → (l.set i x).countP p + (if p (l.getD i d) then 1 else 0) = l.countP p + (if p x then 1 else 0)
 | [],i,x,h => by simp at h
 | y :: l,0,x,_ => by
  simp only [List.set_cons_zero,List.countP_cons,List.getD_cons_zero]
  omega
 | y :: l,i + 1,x,h => by
  have := ze8 p d l i x (by simpa using h)
  simp only [List.set_cons_succ,List.countP_cons,List.getD_cons_succ]
  omega
section
variable (n:Nat) (g:Int → Int → Bool)
structure AugIn (a:Int) (used seen:List Bool) (mt:List Int):Prop where
 lu:used.length = n
 ls:seen.length = n
 lm:mt.length = n
 rng:∀ b,InR n b → -1 ≤ mb mt b ∧ mb mt b < n
 edge:∀ b,InR n b → 0 ≤ mb mt b → g (mb mt b) b = true ∧ sb used b = false
 inj:∀ b b',InR n b → InR n b' → sb seen b = false → sb seen b' = false → 0 ≤ mb mt b → mb mt b = mb mt b' → b = b'
 fresh:∀ b,InR n b → sb seen b = false → mb mt b ≠ a
structure AugOut (a:Int) (used seen:List Bool) (mt:List Int) (o:Bool × List Bool × List Int):Prop where
 ls:o.2.1.length = n
 lm:o.2.2.length = n
 mono:∀ b,InR n b → sb seen b = true → sb o.2.1 b = true
 rng:∀ b,InR n b → -1 ≤ mb o.2.2 b ∧ mb o.2.2 b < n
 edge:∀ b,InR n b → 0 ≤ mb o.2.2 b → g (mb o.2.2 b) b = true ∧ sb used b = false
 no:o.1 = false → o.2.2 = mt ∧ (∀ b,InR n b → g a b = true → sb used b = false → sb o.2.1 b = true) ∧
  ∀ b,InR n b → sb o.2.1 b = true → sb seen b = false → 0 ≤ mb mt b ∧ ∀ b',InR n b' → g (mb mt b) b' = true → sb used b' = false → sb o.2.1 b' = true
 yes:o.1 = true → (∀ b,InR n b → sb seen b = true → mb o.2.2 b = mb mt b) ∧
  (∀ b b',InR n b → InR n b' → sb seen b = false → sb seen b' = false → 0 ≤ mb o.2.2 b → mb o.2.2 b = mb o.2.2 b' → b = b') ∧
  (∀ b,InR n b → sb seen b = false → 0 ≤ mb o.2.2 b → mb o.2.2 b = a ∨ ∃ b1,InR n b1 ∧ sb seen b1 = false ∧ mb mt b1 = mb o.2.2 b) ∧
  cntM o.2.2 = cntM mt + 1
end
section
variable {n:Nat} {g:Int → Int → Bool}
structure AugI (a:Int) (used seen:List Bool) (mt:List Int) (s:Int × List Bool × List Int):Prop where
 lo:a + 1 ≤ s.1
 hi:s.1 ≤ n
 ls:s.2.1.length = n
 m:s.2.2 = mt
 c:cntF s.2.1 ≤ cntF seen
 mono:∀ b,InR n b → sb seen b = true → sb s.2.1 b = true
 done:∀ b,InR n b → b < s.1 → g a b = true → sb used b = false → sb s.2.1 b = true
 clo:∀ b,InR n b → sb s.2.1 b = true → sb seen b = false → 0 ≤ mb mt b ∧ ∀ b',InR n b' → g (mb mt b) b' = true → sb used b' = false → sb s.2.1 b' = true
theorem zs38 {a b:Int} {used seen cur:List Bool} {mt:List Int} (h:AugIn n g a used seen mt) (ha:InR n a) (hb:InR n b) (hs:sb cur b = false) (hls:cur.length = n) (hmono:∀ b,InR n b → sb seen b = true → sb cur b = true) (hg:g a b = true) (hu:sb used b = false) (hm:mb mt b < 0) :
    AugOut n g a used seen mt (true,cur.set b.toNat true,mt.set b.toNat a) := by
  have ha' := ha
  have hb' := hb
  unfold InR at ha' hb'
  have hsb:sb seen b = false := by
    cases h1:sb seen b with
    | false => rfl
    | true => rw [hmono b hb h1] at hs; cases hs
  refine ⟨by simp only [List.length_set]; exact hls,by simp only [List.length_set]; exact h.lm,fun x hx q => ?_,fun x hx => ?_,fun x hx q => ?_,fun q => (by cases q),fun _ => ⟨fun x hx q => ?_,fun x x' hx hx' q q' p e => ?_,fun x hx q p => ?_, ?_⟩⟩
  · simp only []; rw [zr8 hls hb hx]; split
    · rfl
    · exact hmono x hx q
  · simp only []; rw [zk6 h.lm hb hx]; split
    · omega
    · exact h.rng x hx
  · simp only [] at q ⊢; rw [zk6 h.lm hb hx] at q ⊢; split
    · rename_i e; subst e; exact ⟨hg,hu⟩
    · rename_i e; rw [if_neg e] at q; exact h.edge x hx q
  · simp only []; rw [zk6 h.lm hb hx]; rw [if_neg (fun e => by subst e; rw [hsb] at q; cases q)]
  · simp only [] at p e; rw [zk6 h.lm hb hx] at p e; rw [zk6 h.lm hb hx'] at e
    by_cases e1:b = x
    · by_cases e2:b = x'
      · omega
      · rw [if_pos e1,if_neg e2] at e
        exact (h.fresh x' hx' q' e.symm).elim
    · by_cases e2:b = x'
      · rw [if_neg e1,if_pos e2] at e
        exact (h.fresh x hx q e).elim
      · rw [if_neg e1] at p e; rw [if_neg e2] at e
        exact h.inj x x' hx hx' q q' p e
  · simp only [] at p ⊢; rw [zk6 h.lm hb hx] at p ⊢; split
    · exact .inl rfl
    · exact .inr ⟨x,hx,q,rfl⟩
  · have := ze8 (fun x => decide (0 ≤ x)) (-1) mt b.toNat a (by rw [h.lm]; omega)
    simp only [decide_eq_true (show 0 ≤ a from ha'.1),decide_eq_false (show ¬ 0 ≤ mt.getD b.toNat (-1) by unfold mb at hm; omega),if_true,Bool.false_eq_true,if_false] at this
    unfold cntM
    simp only []
    omega
theorem zt38 {a b:Int} {used seen cur:List Bool} {mt:List Int} {o:Bool × List Bool × List Int} (h:AugIn n g a used seen mt) (ha:InR n a) (hb:InR n b) (hs:sb cur b = false) (hls:cur.length = n) (hmono:∀ b,InR n b → sb seen b = true → sb cur b = true) (hg:g a b = true) (hu:sb used b = false) (hm:0 ≤ mb mt b)
    (ho:AugOut n g (mb mt b) used (cur.set b.toNat true) mt o) (ht:o.1 = true):AugOut n g a used seen mt (true,o.2.1,o.2.2.set b.toNat a) := by
  have ha' := ha
  have hb' := hb
  unfold InR at ha' hb'
  have hsb:sb seen b = false := by
    cases h1:sb seen b with
    | false => rfl
    | true => rw [hmono b hb h1] at hs; cases hs
  obtain ⟨y1,y2,y3,y4⟩ := ho.yes ht
  have hc:∀ x,InR n x → sb (cur.set b.toNat true) x = if b = x then true else sb cur x := fun x hx => zr8 hls hb hx
  have hbm:mb o.2.2 b = mb mt b := y1 b hb (by rw [hc b hb,if_pos rfl])
  -- what stands at an x that was not seen at the beginning,other than b
  have hval:∀ x,InR n x → sb seen x = false → b ≠ x → 0 ≤ mb o.2.2 x → (sb cur x = true ∧ mb o.2.2 x = mb mt x) ∨ (sb cur x = false ∧ (mb o.2.2 x = mb mt b ∨ ∃ b1,InR n b1 ∧ sb cur b1 = false ∧ b ≠ b1 ∧ mb mt b1 = mb o.2.2 x)) := by
    intro x hx hx0 hbx hp
    cases h1:sb cur x with
    | true => exact .inl ⟨rfl,y1 x hx (by rw [hc x hx,if_neg hbx]; exact h1)⟩
    | false =>
      refine .inr ⟨rfl, ?_⟩
      rcases y3 x hx (by rw [hc x hx,if_neg hbx]; exact h1) hp with h2 | ⟨b1,h2,h3,h4⟩
      · exact .inl h2
      · rw [hc b1 h2] at h3
        by_cases h5:b = b1
        · rw [if_pos h5] at h3; cases h3
        · rw [if_neg h5] at h3; exact .inr ⟨b1,h2,h3,h5,h4⟩
  have hns:∀ x,InR n x → sb cur x = false → sb seen x = false := fun x hx q => by
    cases h1:sb seen x with
    | false => rfl
    | true => rw [hmono x hx h1] at q; cases q
  have hna:∀ x,InR n x → sb seen x = false → b ≠ x → 0 ≤ mb o.2.2 x → mb o.2.2 x ≠ a := by
    intro x hx hx0 hbx hp
    rcases hval x hx hx0 hbx hp with ⟨_,h2⟩ | ⟨_,h2 | ⟨b1,h3,h4,_,h5⟩⟩
    · rw [h2]; exact h.fresh x hx hx0
    · rw [h2]; exact h.fresh b hb hsb
    · rw [← h5]; exact h.fresh b1 h3 (hns b1 h3 h4)
  refine ⟨ho.ls,by simp only [List.length_set]; exact ho.lm,fun x hx q => ?_,fun x hx => ?_,fun x hx q => ?_,fun q => (by cases q),fun _ => ⟨fun x hx q => ?_,fun x x' hx hx' q q' p e => ?_,fun x hx q p => ?_, ?_⟩⟩
  · exact ho.mono x hx (by
      rw [hc x hx]; split
      · rfl
      · exact hmono x hx q)
  · simp only []; rw [zk6 ho.lm hb hx]; split
    · omega
    · exact ho.rng x hx
  · simp only [] at q ⊢; rw [zk6 ho.lm hb hx] at q ⊢; split
    · rename_i e; subst e; exact ⟨hg,hu⟩
    · rename_i e; rw [if_neg e] at q; exact ho.edge x hx q
  · have hbx:b ≠ x := fun e => by subst e; rw [hsb] at q; cases q
    simp only []; rw [zk6 ho.lm hb hx,if_neg hbx]
    exact y1 x hx (by rw [hc x hx,if_neg hbx]; exact hmono x hx q)
  · simp only [] at p e; rw [zk6 ho.lm hb hx] at p e; rw [zk6 ho.lm hb hx'] at e
    by_cases e1:b = x
    · by_cases e2:b = x'
      · omega
      · rw [if_pos e1,if_neg e2] at e
        rw [if_pos e1] at p
        exact (hna x' hx' q' e2 (by omega) e.symm).elim
    · by_cases e2:b = x'
      · rw [if_neg e1,if_pos e2] at e
        rw [if_neg e1] at p
        exact (hna x hx q e1 p e).elim
      · rw [if_neg e1] at p e; rw [if_neg e2] at e
        have v1 := hval x hx q e1 p
        have v2 := hval x' hx' q' e2 (by omega)
        rcases v1 with ⟨c1,w1⟩ | ⟨c1,w1⟩ <;> rcases v2 with ⟨c2,w2⟩ | ⟨c2,w2⟩
        · exact h.inj x x' hx hx' q q' (by omega) (by omega)
        · rcases w2 with w2 | ⟨b1,k1,k2,k3,k4⟩
          · exact (e1 (h.inj b x hb hx hsb q hm (by omega))).elim
          · have := h.inj b1 x k1 hx (hns b1 k1 k2) q (by omega) (by omega)
            subst this; rw [k2] at c1; cases c1
        · rcases w1 with w1 | ⟨b1,k1,k2,k3,k4⟩
          · exact (e2 (h.inj b x' hb hx' hsb q' hm (by omega))).elim
          · have := h.inj b1 x' k1 hx' (hns b1 k1 k2) q' (by omega) (by omega)
            subst this; rw [k2] at c2; cases c2
        · exact y2 x x' hx hx' (by rw [hc x hx,if_neg e1]; exact c1) (by rw [hc x' hx',if_neg e2]; exact c2) p e
  · simp only [] at p ⊢; rw [zk6 ho.lm hb hx] at p ⊢; split
    · exact .inl rfl
    · rename_i e1
      rw [if_neg e1] at p
      refine .inr ?_
      rcases hval x hx q e1 p with ⟨_,h2⟩ | ⟨_,h2 | ⟨b1,h3,h4,_,h5⟩⟩
      · exact ⟨x,hx,q,h2.symm⟩
      · exact ⟨b,hb,hsb,h2.symm⟩
      · exact ⟨b1,h3,hns b1 h3 h4,h5⟩
  · have := ze8 (fun x => decide (0 ≤ x)) (-1) o.2.2 b.toNat a (by rw [ho.lm]; omega)
    simp only [decide_eq_true (show 0 ≤ a from ha'.1),decide_eq_true (show 0 ≤ o.2.2.getD b.toNat (-1) by unfold mb at hbm hm; omega),if_true] at this
    unfold cntM at y4 ⊢
    simp only []
    omega
end
end Go.Ai.Sx.Du

/- The duties: a try to match a task. -/
namespace Go.Ai.Sx.Du
section
variable {n:Nat} {g:Int → Int → Bool}
theorem zu38 {a:Int} {used seen:List Bool} {mt:List Int} (h:AugIn n g a used seen mt) {s:Int × List Bool × List Int} (i:AugI (n := n) (g := g) a used seen mt s) (he:¬ s.1 < n):AugOut n g a used seen mt (false,s.2.1,s.2.2) := by
 have h1 := i.hi
 refine ⟨i.ls,by rw [i.m]; exact h.lm,i.mono,fun b hb => ?_,fun b hb q => ?_,fun _ => ⟨i.m,fun b hb => i.done b hb ?_,i.clo⟩,fun q => by cases q⟩
 ·simp only []; rw [i.m]; exact h.rng b hb
 ·simp only [] at q ⊢; rw [i.m] at q ⊢; exact h.edge b hb q
 ·unfold InR at hb; omega
def AugQ (n:Nat) (g:Int → Int → Bool) (a:Int) (used seen:List Bool) (mt:List Int):(List Bool × List Int) ⊕ (Bool × List Bool × List Int) → Prop
 | .inl v => AugOut n g a used seen mt (false,v.1,v.2)
 | .inr o => AugOut n g a used seen mt o
theorem zg18 {l:List Bool} {b:Int} (hl:l.length = n) (hb:InR n b) (hs:sb l b = false):cntF (l.set b.toNat true) + 1 = cntF l := by
 unfold InR at hb
 have := ze8 (fun x => !x) false l b.toNat true (by omega)
 unfold sb at hs
 rw [hs] at this
 exact this
theorem zj38 {a:Int} {used seen:List Bool} {mt:List Int} {b:Int} {cur:List Bool} (i:AugI (n := n) (g := g) a used seen mt (b,cur,mt)) (hb:b < n) (hs:g a b = true → sb used b = false → sb cur b = true):AugI (n := n) (g := g) a used seen mt (b + 1,cur,mt) := by
 have h1 := i.lo
 simp only [] at h1
 refine ⟨by simp only []; omega,by simp only []; omega,i.ls,rfl,i.c,i.mono,fun x hx hlt q1 q2 => ?_,i.clo⟩
 simp only [] at hlt
 by_cases e:x = b
 ·subst e; exact hs q1 q2
 ·exact i.done x hx (by simp only []; omega) q1 q2
theorem zk38 {a:Int} {used seen:List Bool} {mt:List Int} {b:Int} {cur:List Bool} {o:Bool × List Bool × List Int} (i:AugI (n := n) (g := g) a used seen mt (b,cur,mt)) (hb:InR n b) (hs:sb cur b = false) (hm:0 ≤ mb mt b) (ho:AugOut n g (mb mt b) used (cur.set b.toNat true) mt o) (hc:cntF o.2.1 ≤ cntF cur) (ht:o.1 = false):AugI (n := n) (g := g) a used seen mt (b + 1,o.2.1,o.2.2) := by
 have h1 := i.lo
 have hb' := hb
 unfold InR at hb'
 have hls := i.ls
 simp only [] at h1 hls
 obtain ⟨q1,q2,q3⟩ := ho.no ht
 have hcs:∀ x,InR n x → sb (cur.set b.toNat true) x = if b = x then true else sb cur x := fun x hx => zr8 hls hb hx
 have hm1:∀ x,InR n x → sb cur x = true → sb o.2.1 x = true := fun x hx q => ho.mono x hx (by rw [hcs x hx,q]; exact ite_self _)
 have hmb:sb o.2.1 b = true := ho.mono b hb (by rw [hcs b hb,if_pos rfl])
 have hci := i.c
 refine ⟨by simp only []; omega,by simp only []; omega,ho.ls,q1,by simp only [] at hci ⊢; omega,fun x hx q => hm1 x hx (i.mono x hx q),fun x hx hlt p1 p2 => ?_,fun x hx p1 p2 => ?_⟩
 ·simp only [] at hlt
  by_cases e:x = b
  ·subst e; exact hmb
  ·exact hm1 x hx (i.done x hx (by simp only []; omega) p1 p2)
 ·cases p3:sb cur x with
  | true =>
   obtain ⟨r1,r2⟩ := i.clo x hx p3 p2
   exact ⟨r1,fun b' hb' r3 r4 => hm1 b' hb' (r2 b' hb' r3 r4)⟩
  | false =>
   by_cases e:b = x
   ·subst e
    exact ⟨hm,fun b' hb' r3 r4 => q2 b' hb' r3 r4⟩
   ·exact q3 x hx p1 (by rw [hcs x hx,if_neg e]; exact p3)
theorem zl38 {a:Int} {used seen:List Bool} {mt:List Int} {b:Int} {cur:List Bool} (h:AugIn n g a used seen mt) (i:AugI (n := n) (g := g) a used seen mt (b,cur,mt)) (hb:InR n b) (hs:sb cur b = false) (hm:0 ≤ mb mt b):AugIn n g (mb mt b) used (cur.set b.toNat true) mt := by
 have hls := i.ls
 simp only [] at hls
 have hcs:∀ x,InR n x → sb (cur.set b.toNat true) x = if b = x then true else sb cur x := fun x hx => zr8 hls hb hx
 have hns:∀ x,InR n x → sb cur x = false → sb seen x = false := fun x hx q => by
  cases h1:sb seen x with
  | false => rfl
  | true => rw [show sb cur x = true from i.mono x hx h1] at q; cases q
 have hcl:∀ x,InR n x → sb (cur.set b.toNat true) x = false → b ≠ x ∧ sb seen x = false := fun x hx q => by
  rw [hcs x hx] at q
  by_cases e:b = x
  ·rw [if_pos e] at q; cases q
  ·rw [if_neg e] at q; exact ⟨e,hns x hx q⟩
 exact ⟨h.lu,by rw [List.length_set]; exact hls,h.lm,h.rng,h.edge,fun x x' hx hx' q q' p e => h.inj x x' hx hx' (hcl x hx q).2 (hcl x' hx' q').2 p e,fun x hx q e => (hcl x hx q).1 (h.inj b x hb hx (hns b hb hs) (hcl x hx q).2 hm e.symm)⟩
theorem zq31 {w:za1} (hfol:∀ a b,InR n a → InR n b → zp w a b = some (g a b)) (hlt:∀ a b,g a b = true → a < b) (hn:n < 1000):∀ k a used seen mt,InR n a → AugIn n g a used seen mt → cntF seen < k → Tot (fun o => AugOut n g a used seen mt o ∧ cntF o.2.1 ≤ cntF seen) (zk3 k a n used seen w mt) := by
 intro k
 induction k with
 | zero => intro a used seen mt _ _ hk; omega
 | succ k ih =>
  intro a used seen mt ha h hk
  have ha' := ha
  unfold InR at ha'
  show Tot _ (zf2 (zk3 k) a n used seen w mt)
  unfold zf2
  have hw0:w64 (a + 1) = a + 1 := zn (by omega) (by omega)
  rw [hw0]
  refine Tot.bind (Q := fun t => AugQ n g a used seen mt t ∧ (match t with | .inl v => cntF v.1 ≤ cntF seen | .inr o => cntF o.2.1 ≤ cntF seen)) (Tot.iter (AugI (n := n) (g := g) a used seen mt) _ (fun s => n - s.1.toNat) ?_ (by simp only [big]; omega) ?_) ?_
  ·exact ⟨Int.le_refl _,by simp only []; omega,h.ls,rfl,Nat.le_refl _,fun b _ q => q,fun b hb q1 q2 => by have := hlt a b q2; simp only [] at q1; omega,fun b hb q1 q2 => by simp only [] at q1; rw [q1] at q2; cases q2⟩
  ·rintro ⟨b,cur,mt1⟩ i
   have e0:mt1 = mt := i.m
   subst e0
   have i1 := i.lo
   have i2 := i.hi
   have i3 := i.ls
   have i4 := i.c
   simp only [] at i1 i2 i3 i4
   by_cases hb:b < n
   ·have hbR:InR n b := ⟨by omega,hb⟩
    have e1:decide (b < (n:Int)) = true := decide_eq_true hb
    have hw:w64 (b + 1) = b + 1 := zn (by omega) (by omega)
    have hlu := h.lu
    have hlm := h.lm
    simp only [e1,cond_true,zj (d := false) (l := used) hbR.1 (by omega),Option.bind_some,hw]
    cases hu:used.getD b.toNat false with
    | true =>
     exact Tot.some ⟨zj38 i hb (fun _ q => by unfold sb at q; rw [hu] at q; cases q),by simp only []; omega⟩
    | false =>
     simp only [cond_false,zj (d := false) (l := cur) hbR.1 (by omega),Option.bind_some]
     cases hs:cur.getD b.toNat false with
     | true => exact Tot.some ⟨zj38 i hb (fun _ _ => hs),by simp only []; omega⟩
     | false =>
      simp only [cond_false,hfol a b ha hbR,Option.bind_some]
      cases hg:g a b with
      | false => exact Tot.some ⟨zj38 i hb (fun q => by rw [hg] at q; cases q),by simp only []; omega⟩
      | true =>
       simp only [Bool.not_true,cond_false,zj (d := (-1:Int)) (l := mt1) hbR.1 (by omega),Option.bind_some]
       by_cases hm:mt1.getD b.toNat (-1) < 0
       ·simp only [decide_eq_true hm,cond_true]
        refine Tot.some (show AugQ n g a used seen mt1 _ ∧ _ from ⟨zs38 h ha hbR hs i3 i.mono hg hu hm, ?_⟩)
        have := zg18 (n := n) i3 hbR hs
        simp only []
        omega
       ·have hm0:0 ≤ mb mt1 b := by unfold mb; omega
        have hmR:InR n (mb mt1 b) := ⟨hm0,(h.rng b hbR).2⟩
        have hcf := zg18 (n := n) i3 hbR hs
        simp only [decide_eq_false hm,cond_false]
        refine Tot.bind (ih (mb mt1 b) used (cur.set b.toNat true) mt1 hmR (zl38 h i hbR hs hm0) (by omega)) ?_
        rintro o ⟨ho,hoc⟩
        have hol := ho.lm
        cases ht:o.1 with
        | true =>
         simp only [cond_true,zj (d := (-1:Int)) (l := o.2.2) hbR.1 (by omega),Option.bind_some]
         exact Tot.some (show AugQ n g a used seen mt1 _ ∧ _ from ⟨zt38 h ha hbR hs i3 i.mono hg hu hm0 ho ht,by simp only []; omega⟩)
        | false =>
         simp only [cond_false]
         refine Tot.some ⟨zk38 i hbR hs hm0 ho (by omega) ht,by simp only []; omega⟩
   ·have e1:decide (b < (n:Int)) = false := decide_eq_false hb
    simp only [e1,cond_false]
    exact Tot.some (show AugQ n g a used seen mt1 _ ∧ _ from ⟨zu38 h i hb,i4⟩)
  ·rintro t ⟨hq,hc⟩
   cases t with
   | inl v => exact Tot.some ⟨hq,hc⟩
   | inr o => exact Tot.some ⟨hq,hc⟩
end
end Go.Ai.Sx.Du

/- The duties: a greatest matching of the tasks,behind some that are fixed. -/
namespace Go.Ai.Sx.Du
instance (n:Nat) (b:Int):Decidable (InR n b) := by unfold InR; infer_instance
def pr (mt:List Int):List (Int × Int) := ((List.range mt.length).filter fun b => decide (0 ≤ mt.getD b (-1))).map fun b => (mt.getD b (-1),(b:Int))
def EdgU (n:Nat) (g:Int → Int → Bool) (used:List Bool) (x y:Int):Prop := InR n x ∧ InR n y ∧ g x y = true ∧ sb used y = false
theorem zs8 {mt:List Int} {q:Int × Int}:q ∈ pr mt ↔ InR mt.length q.2 ∧ 0 ≤ mb mt q.2 ∧ q.1 = mb mt q.2 := by
 unfold pr mb
 simp only [List.mem_map,List.mem_filter,List.mem_range,decide_eq_true_eq]
 constructor
 ·rintro ⟨b,⟨h1,h2⟩,rfl⟩
  exact ⟨⟨by simp only []; omega,by simp only []; omega⟩,by simpa using h2,by simp⟩
 ·rintro ⟨⟨h0,h1⟩,h2,h3⟩
  refine ⟨q.2.toNat,⟨by omega,h2⟩, ?_⟩
  have:((q.2.toNat:Nat):Int) = q.2 := by omega
  rw [this,← h3]
theorem zi24 (mt:List Int):((List.range mt.length).filter fun b => decide (0 ≤ mt.getD b (-1))).length = cntM mt := by
 have h:mt = (List.range mt.length).map (fun b => mt.getD b (-1)) := by
  apply List.ext_getElem?
  intro i
  by_cases hi:i < mt.length
  ·simp [hi,List.getD]
  ·simp [hi,List.getElem?_eq_none (by omega:mt.length ≤ i)]
 unfold cntM
 conv => rhs; rw [h]
 rw [List.countP_map,List.countP_eq_length_filter]
 rfl
theorem zl9 (mt:List Int):(pr mt).length = cntM mt := by
 unfold pr
 rw [List.length_map,zi24]
structure MtOk (n:Nat) (g:Int → Int → Bool) (used:List Bool) (mt:List Int):Prop where
 lm:mt.length = n
 rng:∀ b,InR n b → -1 ≤ mb mt b ∧ mb mt b < n
 edge:∀ b,InR n b → 0 ≤ mb mt b → g (mb mt b) b = true ∧ sb used b = false
 inj:∀ b b',InR n b → InR n b' → 0 ≤ mb mt b → mb mt b = mb mt b' → b = b'
section
variable {n:Nat} {g:Int → Int → Bool} {used:List Bool} {mt:List Int}
theorem zq2 {A B:Type} {f:A → B}:∀ {l:List A},l.Nodup → (∀ x ∈ l,∀ y ∈ l,f x = f y → x = y) → (l.map f).Nodup
 | [],_,_ => List.nodup_nil
 | a :: l,hn,h => by
  have hn' := List.nodup_cons.1 hn
  rw [List.map_cons,List.nodup_cons]
  refine ⟨fun hm => ?_,zq2 hn'.2 fun x hx y hy => h x (List.mem_cons_of_mem _ hx) y (List.mem_cons_of_mem _ hy)⟩
  obtain ⟨y,hy,e⟩ := List.mem_map.1 hm
  have := h a List.mem_cons_self y (List.mem_cons_of_mem _ hy) e.symm
  subst this
  exact hn'.1 hy
theorem MtOk.isM (h:MtOk n g used mt):IsM (EdgU n g used) (pr mt) := by
 have hl := h.lm
 have hb:∀ b ∈ (List.range mt.length).filter (fun b => decide (0 ≤ mt.getD b (-1))),InR n (b:Int) ∧ 0 ≤ mb mt b := fun b hb => by
  have := List.mem_filter.1 hb
  have h1 := List.mem_range.1 this.1
  exact ⟨⟨by omega,by omega⟩,by unfold mb; simpa using this.2⟩
 have hn:((List.range mt.length).filter (fun b => decide (0 ≤ mt.getD b (-1)))).Nodup := List.nodup_range.filter _
 refine ⟨fun q hq => ?_, ?_, ?_⟩
 ·obtain ⟨h1,h2,h3⟩ := zs8.1 hq
  rw [hl] at h1
  rw [h3]
  have := h.rng q.2 h1
  exact ⟨⟨h2,this.2⟩,h1,(h.edge q.2 h1 h2).1,(h.edge q.2 h1 h2).2⟩
 ·unfold pr
  rw [List.map_map]
  refine zq2 hn fun x hx y hy e => ?_
  have := h.inj x y (hb x hx).1 (hb y hy).1 (hb x hx).2 (by unfold mb; simpa using e)
  omega
 ·unfold pr
  rw [List.map_map]
  refine zq2 hn fun x hx y hy e => ?_
  have:((x:Nat):Int) = (y:Nat) := e
  omega
theorem zr31 {f:Int} {a:Int} {o:Bool × List Bool × List Int} (hu:used.length = n) (ha:InR n a) (hfa:f ≤ a) (h:MtOk n g used mt) (hm:Most (EdgU n g used) (fun x => f ≤ x ∧ x < a) (pr mt)) (ho:AugOut n g a used (List.replicate n false) mt o) :
    MtOk n g used o.2.2 ∧ Most (EdgU n g used) (fun x => f ≤ x ∧ x < a + 1) (pr o.2.2) ∧ cntM o.2.2 = cntM mt + (if o.1 then 1 else 0) := by
  have hsr:∀ b,sb (List.replicate n false) b = false := fun b => by
    unfold sb
    simp only [List.getD,List.getElem?_replicate]
    split <;> rfl
  have hl := h.lm
  have hol := ho.lm
  have hset:∀ l,Most (EdgU n g used) (fun x => (f ≤ x ∧ x < a) ∨ x = a) l → Most (EdgU n g used) (fun x => f ≤ x ∧ x < a + 1) l := fun l hl => ⟨hl.m,fun q hq => by have := hl.a q hq; omega,fun l' h1 h2 => hl.most l' h1 fun q hq => by have := h2 q hq; omega⟩
  cases ht:o.1 with
  | false =>
    obtain ⟨q1,q2,q3⟩ := ho.no ht
    rw [q1]
    refine ⟨h,hset _ ?_,by simp⟩
    refine zg28 hm (fun b => InR n b ∧ sb o.2.1 b = true) (fun x => x = a ∨ ∃ b,InR n b ∧ sb o.2.1 b = true ∧ mb mt b = x) (hk := .inl rfl) ?_ ?_
    · rintro x b (rfl | ⟨b1,h1,h2,rfl⟩) he
      · exact ⟨he.2.1,q2 b he.2.1 he.2.2.1 he.2.2.2⟩
      · exact ⟨he.2.1,(q3 b1 h1 h2 (hsr b1)).2 b he.2.1 he.2.2.1 he.2.2.2⟩
    · rintro b ⟨h1,h2⟩
      exact ⟨mb mt b,zs8.2 ⟨by rw [hl]; exact h1,(q3 b h1 h2 (hsr b)).1,rfl⟩,.inr ⟨b,h1,h2,rfl⟩⟩
  | true =>
    obtain ⟨y1,y2,y3,y4⟩ := ho.yes ht
    have hok:MtOk n g used o.2.2 := ⟨ho.lm,ho.rng,ho.edge,fun b b' hb hb' => y2 b b' hb hb' (hsr b) (hsr b')⟩
    refine ⟨hok,hset _ (zf28 hm hok.isM (fun q hq => ?_) (by rw [zl9,zl9,y4])),by simp [y4]⟩
    obtain ⟨h1,h2,h3⟩ := zs8.1 hq
    rw [hol] at h1
    rcases y3 q.2 h1 (hsr _) h2 with h4 | ⟨b1,k1,_,k2⟩
    · exact .inr (h3.trans h4)
    · refine .inl ?_
      have := hm.a (mb mt b1,b1) (zs8.2 ⟨by rw [hl]; exact k1,by simp only []; omega,rfl⟩)
      simp only [] at this
      omega
end
end Go.Ai.Sx.Du

/- The duties: the number of links that a beginning allows. -/
namespace Go.Ai.Sx.Du
def cntR (n:Nat) (l:List Int):Nat := l.countP fun x => decide (x < (n:Int))
theorem zj1 {A:Type} {l:List A} {i:Nat} {d:A} (h:i < l.length):l.getD i d ∈ l := by simp [List.getD,h]
structure Usd (n:Nat) (fixed:List Int) (used:List Bool):Prop where
 l:used.length = n
 u:∀ b,InR n b → (sb used b = true ↔ b ∈ fixed)
structure FixI (n:Nat) (fixed:List Int) (s:Int × Int × List Bool):Prop where
 lo:0 ≤ s.2.1
 hi:s.2.1 ≤ fixed.length
 us:Usd n (fixed.take s.2.1.toNat) s.2.2
 c:s.1 = (cntR n (fixed.take s.2.1.toNat):Nat)
structure LftI (n:Nat) (g:Int → Int → Bool) (used:List Bool) (f c0:Nat) (s:Int × Int × List Bool × List Int):Prop where
 lo:(f:Int) ≤ s.2.1
 hi:s.2.1 ≤ n
 ok:MtOk n g used s.2.2.2
 most:Most (EdgU n g used) (fun x => (f:Int) ≤ x ∧ x < s.2.1) (pr s.2.2.2)
 c:s.1 = (c0:Int) + cntM s.2.2.2
 small:(cntM s.2.2.2:Int) ≤ s.2.1 - f
theorem zj24 {n:Nat} {g:Int → Int → Bool} {w:za1} (hw:w.1.length = n) (hfol:∀ a b,InR n a → InR n b → zp w a b = some (g a b)) (hlt:∀ a b,g a b = true → a < b) (hn:n < 1000) {fixed:List Int} (hf:∀ x ∈ fixed,0 ≤ x ∧ x ≤ n) (hfl:fixed.length ≤ n) :
    ∃ used mt,Usd n fixed used ∧ MtOk n g used mt ∧ Most (EdgU n g used) (fun x => (fixed.length:Int) ≤ x ∧ x < n) (pr mt) ∧ za2 w fixed = some ((cntR n fixed:Int) + cntM mt) := by
  suffices hs:Tot (fun r => ∃ used mt,Usd n fixed used ∧ MtOk n g used mt ∧ Most (EdgU n g used) (fun x => (fixed.length:Int) ≤ x ∧ x < n) (pr mt) ∧ r = (cntR n fixed:Int) + cntM mt) (za2 w fixed) by
    obtain ⟨r,h1,used,mt,h2,h3,h4,rfl⟩ := hs
    exact ⟨used,mt,h2,h3,h4,h1⟩
  unfold za2
  have hl:lenI w.1 = n := by rw [zh,hw]
  have hm1:mkO 8 (n:Int) (0:Int) = some (List.replicate n 0) := by rw [zq5 (by omega)]; simp
  have hm2:mkO 1 (n:Int) (false:Bool) = some (List.replicate n false) := by rw [zq5 (by omega)]; simp
  simp only [hm1,hm2,Option.bind_some,hl]
  have hlr:lenI (List.replicate n (0:Int)) = n := by simp [zh]
  refine Tot.bind (Q := fun t:List Int => t.length = n ∧ ∀ b,InR n b → mb t b = -1) (Tot.iter (fun s:Int × List Int => 0 ≤ s.1 ∧ s.1 ≤ n ∧ s.2.length = n ∧ ∀ b,InR n b → b < s.1 → mb s.2 b = -1) _ (fun s => n - s.1.toNat) ?_ (by first | (simp only [big]; omega) | omega) ?_) ?_
  · exact ⟨Int.le_refl _,Int.natCast_nonneg _,List.length_replicate,fun b hb h => absurd h (Int.not_lt.2 hb.1)⟩
  · rintro ⟨i,l⟩ ⟨h1,h2,h3,h4⟩
    simp only [] at h1 h2 h3 h4
    simp only [hlr]
    by_cases hi:i < n
    · have hw2:w64 (i + 1) = i + 1 := zn (by omega) (by omega)
      simp only [decide_eq_true hi,cond_true,zj (d := (0:Int)) h1 (show i < (l.length:Int) by omega),Option.bind_some,hw2]
      refine Tot.some ⟨⟨by simp only []; omega,by simp only []; omega,by simp only [List.length_set]; exact h3,fun b hb hlt => ?_⟩,by simp only []; omega⟩
      simp only [] at hlt ⊢
      rw [zk6 h3 ⟨h1,hi⟩ hb]
      split
      · rfl
      · exact h4 b hb (by omega)
    · simp only [decide_eq_false hi,cond_false]
      exact Tot.some ⟨h3,fun b hb => h4 b hb (by unfold InR at hb; omega)⟩
  rintro mt0 ⟨hl0,hv0⟩
  refine Tot.bind (Q := fun t:Int × List Bool => Usd n fixed t.2 ∧ t.1 = (cntR n fixed:Nat)) (Tot.iter (FixI n fixed) _ (fun s => fixed.length - s.2.1.toNat) ?_ (by first | (simp only [big]; omega) | omega) ?_) ?_
  · exact ⟨Int.le_refl _,by simp only []; omega,⟨by simp,fun b hb => by simp [sb,List.getD,List.getElem?_replicate]; split <;> simp⟩,by simp [cntR]⟩
  · rintro ⟨c,j,us⟩ h
    have h1 := h.lo
    have h2 := h.hi
    have h3 := h.us.l
    have h4 := h.c
    simp only [] at h1 h2 h3 h4
    have hcl:cntR n (fixed.take j.toNat) ≤ fixed.length := Nat.le_trans (List.countP_le_length) (by simp; omega)
    by_cases hj:j < fixed.length
    · have hw2:w64 (j + 1) = j + 1 := zn (by omega) (by omega)
      have hw3:w64 (c + 1) = c + 1 := zn (by omega) (by omega)
      have hjn:j.toNat < fixed.length := by omega
      have hx := hf _ (zj1 (d := (0:Int)) hjn)
      have htk:fixed.take (j + 1).toNat = fixed.take j.toNat ++ [fixed.getD j.toNat 0] := by
        rw [show (j + 1).toNat = j.toNat + 1 by omega,List.take_add_one]
        simp [List.getD,hjn]
      have hidx := zj (d := (0:Int)) h1 hj
      obtain ⟨xj,hxj⟩:∃ v,fixed.getD j.toNat 0 = v := ⟨_,rfl⟩
      rw [hxj] at hx htk hidx
      simp only [decide_eq_true (show j < lenI fixed from hj),cond_true,hidx,Option.bind_some,hw2,hw3]
      by_cases hr:xj < n
      · simp only [decide_eq_true hr,cond_true,zj (d := false) hx.1 (show xj < (us.length:Int) by omega),Option.bind_some]
        refine Tot.some ⟨⟨by simp only []; omega,by simp only []; omega,⟨by simp only [List.length_set]; exact h3,fun b hb => ?_⟩, ?_⟩,by simp only []; omega⟩
        · simp only []
          rw [zr8 h3 ⟨hx.1,hr⟩ hb,htk,List.mem_append,List.mem_singleton]
          have := h.us.u b hb
          simp only [] at this
          split
          · rename_i e; simp [e]
          · rename_i e
            rw [this]
            constructor
            · exact .inl
            · rintro (h | h)
              · exact h
              · exact (e h.symm).elim
        · simp only []
          rw [htk]
          unfold cntR at h4 ⊢
          rw [List.countP_append,h4]
          simp [List.countP_cons,hr]
      · simp only [decide_eq_false hr,cond_false]
        refine Tot.some ⟨⟨by simp only []; omega,by simp only []; omega,⟨h3,fun b hb => ?_⟩, ?_⟩,by simp only []; omega⟩
        · simp only []
          rw [htk,List.mem_append,List.mem_singleton]
          have := h.us.u b hb
          simp only [] at this
          rw [this]
          unfold InR at hb
          constructor
          · exact .inl
          · rintro (h | h)
            · exact h
            · omega
        · simp only []
          rw [htk]
          unfold cntR at h4 ⊢
          rw [List.countP_append,h4]
          simp [List.countP_cons,hr]
    · simp only [decide_eq_false (show ¬ j < lenI fixed from hj),cond_false]
      have e:fixed.take j.toNat = fixed := List.take_of_length_le (by omega)
      have q1 := h.us
      simp only [] at q1
      rw [e] at q1 h4
      exact Tot.some ⟨q1,h4⟩
  rintro ⟨c0,used⟩ ⟨hu,hc0⟩
  simp only [] at hu hc0 ⊢
  have hcl:cntR n fixed ≤ fixed.length := List.countP_le_length
  have hk0:cntM mt0 = 0 := by
    unfold cntM
    rw [List.countP_eq_zero]
    intro x hx
    obtain ⟨i,hi,rfl⟩ := List.getElem_of_mem hx
    have := hv0 (i:Int) ⟨by omega,by omega⟩
    unfold mb at this
    simp [List.getD,hi] at this
    simp [this]
  refine Tot.bind (Q := fun t:Int × List Bool × List Int => MtOk n g used t.2.2 ∧ Most (EdgU n g used) (fun x => (fixed.length:Int) ≤ x ∧ x < n) (pr t.2.2) ∧ t.1 = (cntR n fixed:Int) + cntM t.2.2) (Tot.iter (LftI n g used fixed.length (cntR n fixed)) _ (fun s => n - s.2.1.toNat) ?_ (by first | (simp only [big]; omega) | omega) ?_) ?_
  · have hpr:pr mt0 = [] := List.eq_nil_of_length_eq_zero (by rw [zl9,hk0])
    refine ⟨by simp only [zh]; omega,by simp only [zh]; omega,⟨hl0,fun b hb => by rw [hv0 b hb]; omega,fun b hb q => by rw [hv0 b hb] at q; omega,fun b b' hb hb' q => by rw [hv0 b hb] at q; omega⟩,⟨by simp only []; rw [hpr]; exact ⟨by simp,by simp,by simp⟩,by simp only []; rw [hpr]; simp,fun l' _ h2 => ?_⟩,by simp only []; rw [hk0,hc0]; simp,by simp only [zh]; rw [hk0]; omega⟩
    match l' with
    | [] => simp
    | q :: _ =>
      have := h2 q List.mem_cons_self
      simp only [zh] at this
      omega
  · rintro ⟨c,i,X,mt⟩ h
    have h1 := h.lo
    have h2 := h.hi
    have h3 := h.ok
    have h4 := h.c
    have h5 := h.small
    have h6 := h.most
    simp only [] at h1 h2 h3 h4 h5 h6
    by_cases hi:i < n
    · have hiR:InR n i := ⟨by omega,hi⟩
      have hw2:w64 (i + 1) = i + 1 := zn (by omega) (by omega)
      have hw3:w64 (c + 1) = c + 1 := zn (by omega) (by omega)
      have hsr:∀ b,sb (List.replicate n false) b = false := fun b => by
        unfold sb
        simp only [List.getD,List.getElem?_replicate]
        split <;> rfl
      have hin:AugIn n g i used (List.replicate n false) mt := ⟨hu.l,by simp,h3.lm,h3.rng,h3.edge,fun b b' hb hb' _ _ => h3.inj b b' hb hb',fun b hb _ e => by
        have := h6.a (mb mt b,b) (zs8.2 ⟨by rw [h3.lm]; exact hb,by simp only []; omega,rfl⟩)
        simp only [] at this
        omega⟩
      have hcf:cntF (List.replicate n false) < big := by
        have:cntF (List.replicate n false) ≤ (List.replicate n false).length := List.countP_le_length
        simp only [List.length_replicate] at this
        simp only [big]
        omega
      simp only [decide_eq_true hi,cond_true,hw2,hw3]
      refine Tot.bind (zq31 hfol hlt hn big i used _ mt hiR hin hcf) ?_
      rintro o ⟨ho,_⟩
      obtain ⟨k1,k2,k3⟩ := zr31 hu.l hiR h1 h3 h6 ho
      cases ht:o.1 with
      | true =>
        rw [ht] at k3
        simp only [if_true] at k3
        simp only [cond_true]
        exact Tot.some ⟨⟨by simp only []; omega,by simp only []; omega,k1,k2,by simp only []; omega,by simp only []; omega⟩,by simp only []; omega⟩
      | false =>
        rw [ht] at k3
        simp only [Bool.false_eq_true,if_false] at k3
        simp only [cond_false]
        exact Tot.some ⟨⟨by simp only []; omega,by simp only []; omega,k1,k2,by simp only []; omega,by simp only []; omega⟩,by simp only []; omega⟩
    · simp only [decide_eq_false hi,cond_false]
      have:i = n := by omega
      subst this
      exact Tot.some ⟨h3,h6,h4⟩
  · rintro t ⟨q1,q2,q3⟩
    exact Tot.some ⟨used,t.2.2,hu,q1,q2,q3⟩
end Go.Ai.Sx.Du

/- The duties: the followers,one after the other. -/
namespace Go.Ai.Sx.Du
def Edg (n:Nat) (g:Int → Int → Bool) (x y:Int):Prop := InR n x ∧ InR n y ∧ g x y = true
def pf (n:Nat) (F:List Int):List (Int × Int) := ((List.range F.length).filter fun i => decide (F.getD i 0 < (n:Int))).map fun (i:Nat) => ((i:Int),F.getD i 0)
structure PrefOk (n:Nat) (g:Int → Int → Bool) (F:List Int):Prop where
 len:F.length ≤ n
 rng:∀ x ∈ F,0 ≤ x ∧ x ≤ n
 edge:∀ i:Nat,i < F.length → F.getD i 0 < n → g i (F.getD i 0) = true
 inj:∀ i j:Nat,i < F.length → j < F.length → F.getD i 0 < n → F.getD i 0 = F.getD j 0 → i = j
theorem zj20 {n:Nat} {F:List Int} {q:Int × Int}:q ∈ pf n F ↔ ∃ i:Nat,i < F.length ∧ F.getD i 0 < n ∧ q = ((i:Int),F.getD i 0) := by
 unfold pf
 simp only [List.mem_map,List.mem_filter,List.mem_range,decide_eq_true_eq]
 constructor
 ·rintro ⟨i,⟨h1,h2⟩,rfl⟩; exact ⟨i,h1,h2,rfl⟩
 ·rintro ⟨i,h1,h2,rfl⟩; exact ⟨i,⟨h1,h2⟩,rfl⟩
theorem zu11 {A:Type} (p:A → Bool) (d:A) (l:List A):((List.range l.length).filter fun i => p (l.getD i d)).length = l.countP p := by
 have h:l = (List.range l.length).map (fun b => l.getD b d) := by
  apply List.ext_getElem?
  intro i
  by_cases hi:i < l.length
  ·simp [hi,List.getD]
  ·simp [hi,List.getElem?_eq_none (by omega:l.length ≤ i)]
 conv => rhs; rw [h]
 rw [List.countP_map,List.countP_eq_length_filter]
 rfl
theorem zu32 (n:Nat) (F:List Int):(pf n F).length = cntR n F := by
 unfold pf cntR
 rw [List.length_map]
 exact zu11 (fun x => decide (x < (n:Int))) 0 F
section
variable {n:Nat} {g:Int → Int → Bool} {F:List Int}
theorem PrefOk.isM (h:PrefOk n g F):IsM (Edg n g) (pf n F) := by
 have hl := h.len
 have hn:((List.range F.length).filter fun i => decide (F.getD i 0 < (n:Int))).Nodup := List.nodup_range.filter _
 have hb:∀ i ∈ (List.range F.length).filter (fun i => decide (F.getD i 0 < (n:Int))),i < F.length ∧ F.getD i 0 < n := fun i hi => by
  have := List.mem_filter.1 hi
  exact ⟨List.mem_range.1 this.1,by simpa using this.2⟩
 refine ⟨fun q hq => ?_, ?_, ?_⟩
 ·obtain ⟨i,h1,h2,rfl⟩ := zj20.1 hq
  have := h.rng _ (zj1 (d := (0:Int)) h1)
  exact ⟨⟨by simp only []; omega,by simp only []; omega⟩,⟨this.1,h2⟩,h.edge i h1 h2⟩
 ·unfold pf
  rw [List.map_map]
  refine zq2 hn fun x _ y _ e => ?_
  have:((x:Nat):Int) = (y:Nat) := e
  omega
 ·unfold pf
  rw [List.map_map]
  exact zq2 hn fun x hx y hy e => h.inj x y (hb x hx).1 (hb y hy).1 (hb x hx).2 e
structure Val (n:Nat) (g:Int → Int → Bool) (F:List Int) (used:List Bool) (mt:List Int):Prop where
 us:Usd n F used
 ok:MtOk n g used mt
 most:Most (EdgU n g used) (fun x => (F.length:Int) ≤ x ∧ x < n) (pr mt)
theorem zh28 {used:List Bool} {mt:List Int} (h:PrefOk n g F) (v:Val n g F used mt):IsM (Edg n g) (pf n F ++ pr mt) := by
 have hm := v.ok.isM
 refine h.isM.append ⟨fun q hq => ⟨(hm.e q hq).1,(hm.e q hq).2.1,(hm.e q hq).2.2.1⟩,hm.f,hm.s⟩ (fun p hp q hq e => ?_) (fun p hp q hq e => ?_)
 ·obtain ⟨i,h1,_,rfl⟩ := zj20.1 hp
  have := v.most.a q hq
  simp only [] at e
  omega
 ·obtain ⟨i,h1,h2,rfl⟩ := zj20.1 hp
  have hq' := hm.e q hq
  have:q.2 ∈ F := by rw [← e]; exact zj1 h1
  have := (v.us.u q.2 hq'.2.1).2 this
  rw [hq'.2.2.2] at this
  cases this
theorem zv32 {used:List Bool} {mt:List Int} (h:PrefOk n g F) (v:Val n g F used mt) {l:List (Int × Int)} (hl:Most (Edg n g) (fun x => 0 ≤ x ∧ x < n) l):cntR n F + cntM mt ≤ l.length := by
 have := hl.most _ (zh28 h v) fun q hq => ((zh28 h v).e q hq).1
 rw [List.length_append,zu32,zl9] at this
 exact this
theorem PrefOk.push {b:Int} (h:PrefOk n g F) (hl:F.length < n) (hb:0 ≤ b ∧ b ≤ n) (hg:b < n → g F.length b = true ∧ b ∉ F):PrefOk n g (F ++ [b]) := by
 have hlen:(F ++ [b]).length = F.length + 1 := by simp
 have h0:∀ i:Nat,i < F.length → (F ++ [b]).getD i 0 = F.getD i 0 := fun i hi => by simp only [List.getD_eq_getElem?_getD,List.getElem?_append_left hi]
 have h1:(F ++ [b]).getD F.length 0 = b := by simp [List.getD]
 refine ⟨by omega,fun x hx => ?_,fun i hi q => ?_,fun i j hi hj q e => ?_⟩
 ·rcases List.mem_append.1 hx with hx | hx
  ·exact h.rng x hx
  ·rw [List.mem_singleton.1 hx]; exact hb
 ·rw [hlen] at hi
  by_cases h2:i < F.length
  ·rw [h0 i h2] at q ⊢; exact h.edge i h2 q
  ·have:i = F.length := by omega
   subst this
   rw [h1] at q ⊢
   exact (hg q).1
 ·rw [hlen] at hi hj
  by_cases h2:i < F.length
  ·by_cases h3:j < F.length
   ·rw [h0 i h2] at q e; rw [h0 j h3] at e; exact h.inj i j h2 h3 q e
   ·have:j = F.length := by omega
    subst this
    rw [h0 i h2] at q e; rw [h1] at e
    exact ((hg (e ▸ q)).2 (e ▸ zj1 h2)).elim
  ·have:i = F.length := by omega
   subst this
   by_cases h3:j < F.length
   ·rw [h1] at q e; rw [h0 j h3] at e
    exact ((hg q).2 (e ▸ zj1 h3)).elim
   ·omega
end
end Go.Ai.Sx.Du

/- The duties: the followers are as many as a greatest matching has links. -/
namespace Go.Ai.Sx.Du
open Classical in
theorem zi28 {E:Int → Int → Prop} {l:List (Int × Int)} (h:IsM E l) (k:Int):l.length ≤ (l.filter (fun q => q.1 != k)).length + (if ∃ b,(k,b) ∈ l then 1 else 0) := by
 obtain ⟨he,hf,_⟩ := h
 clear he
 induction l with
 | nil => simp
 | cons q l ih =>
  rw [List.map_cons,List.nodup_cons] at hf
  have ih := ih hf.2 (by rename_i h3; rw [List.map_cons,List.nodup_cons] at h3; exact h3.2)
  by_cases hq:q.1 = k
  ·have e2:(q.1 != k) = false := by simpa using hq
   have hno:¬ ∃ b,(k,b) ∈ l := fun ⟨b,hb⟩ => hf.1 (by rw [hq]; exact List.mem_map.2 ⟨_,hb,rfl⟩)
   rw [if_neg hno] at ih
   rw [if_pos ⟨q.2,by rw [← hq]; exact List.mem_cons_self⟩]
   simp only [List.filter_cons,e2,Bool.false_eq_true,if_false,List.length_cons]
   omega
  ·have e2:(q.1 != k) = true := by simpa using hq
   simp only [List.filter_cons,e2,if_true,List.length_cons]
   by_cases hx:∃ b,(k,b) ∈ l
   ·obtain ⟨b,hb⟩ := hx
    rw [if_pos ⟨b,hb⟩] at ih
    rw [if_pos ⟨b,List.mem_cons_of_mem _ hb⟩]
    omega
   ·rw [if_neg hx] at ih
    omega
section
variable {n:Nat} {g:Int → Int → Bool} {F:List Int}
open Classical in
theorem zx22 {used used':List Bool} {mt mt':List Int} {c:Int} (v:Val n g F used mt) (v':Val n g (F ++ [c]) used' mt') (hl:F.length < n) (hc:∀ q ∈ pr mt,q.2 = c → q.1 = F.length):cntM mt ≤ cntM mt' + (if ∃ b,((F.length:Int),b) ∈ pr mt then 1 else 0) := by
 have hm := v.ok.isM
 have h1 := zi28 hm (F.length:Int)
 have hf := hm.filter (fun q => q.1 != (F.length:Int))
 have h2 := v'.most.most ((pr mt).filter (fun q => q.1 != (F.length:Int))) ⟨fun q hq => ?_,hf.f,hf.s⟩ (fun q hq => ?_)
 ·rw [zl9] at h1 h2
  omega
 ·have hq1 := List.mem_filter.1 hq
  have he := hm.e q hq1.1
  refine ⟨he.1,he.2.1,he.2.2.1, ?_⟩
  cases hu:sb used' q.2 with
  | false => rfl
  | true =>
   have := (v'.us.u q.2 he.2.1).1 hu
   rcases List.mem_append.1 this with h3 | h3
   ·have := (v.us.u q.2 he.2.1).2 h3
    rw [he.2.2.2] at this
    cases this
   ·have := hc q hq1.1 (List.mem_singleton.1 h3)
    have h4 := hq1.2
    rw [this] at h4
    simp at h4
 ·have hq1 := List.mem_filter.1 hq
  have h3 := v.most.a q hq1.1
  have h4:q.1 ≠ (F.length:Int) := by simpa using hq1.2
  rw [List.length_append,List.length_singleton]
  omega
theorem zs31 {used used':List Bool} {mt mt':List Int} {b:Int} (v:Val n g F used mt) (v':Val n g (F ++ [b]) used' mt') (hl:F.length < n) (hb:((F.length:Int),b) ∈ pr mt):cntR n F + cntM mt ≤ cntR n (F ++ [b]) + cntM mt' := by
 have hm := v.ok.isM
 have h1 := zx22 v v' hl (fun q hq e => by
  have := zm6 hm.s hq hb e
  rw [this])
 rw [if_pos ⟨b,hb⟩] at h1
 have hbn := (hm.e _ hb).2.1
 unfold InR at hbn
 simp only [] at hbn
 unfold cntR
 rw [List.countP_append]
 simp only [List.countP_cons,List.countP_nil,decide_eq_true hbn.2,if_true]
 omega
theorem zt31 {used used':List Bool} {mt mt':List Int} (v:Val n g F used mt) (v':Val n g (F ++ [(n:Int)]) used' mt') (hl:F.length < n) (hb:¬ ∃ b,((F.length:Int),b) ∈ pr mt):cntR n F + cntM mt ≤ cntR n (F ++ [(n:Int)]) + cntM mt' := by
 have hm := v.ok.isM
 have h1 := zx22 v v' hl (fun q hq e => by
  have := (hm.e q hq).2.1
  unfold InR at this
  omega)
 rw [if_neg hb] at h1
 unfold cntR
 rw [List.countP_append]
 omega
end
end Go.Ai.Sx.Du

/- The duties: what the followers are. -/
namespace Go.Ai.Sx.Du
section
variable {n:Nat} {g:Int → Int → Bool}
def Best (n:Nat) (g:Int → Int → Bool) (M:Nat) (F:List Int):Prop := PrefOk n g F ∧ ∃ used mt,Val n g F used mt ∧ cntR n F + cntM mt = M
structure FolI (n:Nat) (g:Int → Int → Bool) (M:Nat) (F:List Int) (s:List Int × Int):Prop where
 f:s.1 = F
 lo:(F.length:Int) + 1 ≤ s.2
 hi:s.2 ≤ n
 no:∀ b,(F.length:Int) < b → b < s.2 → g F.length b = true → b ∉ F → ∀ used mt,Val n g (F ++ [b]) used mt → cntR n (F ++ [b]) + cntM mt ≠ M
theorem zk20 {w:za1} (hw:w.1.length = n) (hfol:∀ a b,InR n a → InR n b → zp w a b = some (g a b)) (hlt:∀ a b,g a b = true → a < b) (hn:n < 200) :
    ∃ F l,zo2 w = some F ∧ F.length = n ∧ PrefOk n g F ∧ Most (Edg n g) (fun x => 0 ≤ x ∧ x < n) l ∧ cntR n F = l.length := by
  have hl:lenI w.1 = n := by rw [zh,hw]
  have hme := fun (F:List Int) (h:PrefOk n g F) => zj24 hw hfol hlt (show n < 1000 by omega) h.rng h.len
  have h0:PrefOk n g [] := ⟨by simp,by simp,by simp,by simp⟩
  obtain ⟨u0,m0,q1,q2,q3,q4⟩ := hme [] h0
  have hmost:Most (Edg n g) (fun x => 0 ≤ x ∧ x < n) (pr m0) := by
    have hu:∀ b,InR n b → sb u0 b = false := fun b hb => by
      cases h:sb u0 b with
      | false => rfl
      | true => have := (q1.u b hb).1 h; cases this
    refine ⟨⟨fun q hq => ⟨(q3.m.e q hq).1,(q3.m.e q hq).2.1,(q3.m.e q hq).2.2.1⟩,q3.m.f,q3.m.s⟩,fun q hq => by have := q3.a q hq; simpa using this,fun l' h1 h2 => q3.most l' ⟨fun q hq => ⟨(h1.e q hq).1,(h1.e q hq).2.1,(h1.e q hq).2.2,hu _ (h1.e q hq).2.1⟩,h1.f,h1.s⟩ (fun q hq => by have := h2 q hq; simpa using this)⟩
  suffices hs:Tot (fun F => F.length = n ∧ PrefOk n g F ∧ cntR n F = (pr m0).length) (zo2 w) by
    obtain ⟨F,h1,h2,h3,h4⟩ := hs
    exact ⟨F,pr m0,h1,h2,h3,hmost,h4⟩
  obtain ⟨M,hM⟩:∃ M,(pr m0).length = M := ⟨_,rfl⟩
  have hq4:za2 w [] = some (M:Int) := by
    rw [q4,← hM,zl9]; simp [cntR]
  unfold zo2
  simp only [hq4,Option.bind_some,hl,hM]
  refine Tot.bind (Q := fun F:List Int => F.length = n ∧ Best n g M F) (Tot.iter (fun s:List Int × Int => s.1.length = s.2 ∧ Best n g M s.1) _ (fun s => n - s.1.length) ?_ (by first | (simp only [big]; omega) | omega) ?_) ?_
  · exact ⟨rfl,h0,u0,m0,⟨q1,q2,q3⟩,by rw [← hM,zl9]; simp [cntR]⟩
  · rintro ⟨F,i⟩ ⟨h1,h2,used,mt,h3,h4⟩
    simp only [] at h1 h2 h3 h4
    subst h1
    have hF := h2.len
    by_cases hi:(F.length:Int) < n
    · have hw2:w64 ((F.length:Int) + 1) = F.length + 1 := zn (by omega) (by omega)
      simp only [decide_eq_true hi,cond_true,hw2]
      refine Tot.bind (Q := fun t:(List Int × Int × Bool × Bool × za1 × Int × List Int × List Int × Int × Int × Bool) ⊕ List Int => match t with
        | .inl v => v.1.length = F.length + 1 ∧ Best n g M v.1
        | .inr F' => F' = F ∧ FolI n g M F (F,n)) (Tot.iter (FolI n g M F) _ (fun s => n - s.2.toNat) ?_ (by first | (simp only [big]; omega) | omega) ?_) ?_
      · exact ⟨rfl,Int.le_refl _,by simp only []; omega,fun b q1 q2 => by simp only [] at q2; omega⟩
      · rintro ⟨F',b⟩ h
        have e := h.f
        have lo := h.lo
        have hib := h.hi
        simp only [] at e lo hib
        subst e
        by_cases hb:b < n
        · have hbR:InR n b := ⟨by omega,hb⟩
          have hw3:w64 (b + 1) = b + 1 := zn (by omega) (by omega)
          have skip:(g F'.length b = true → b ∉ F' → ∀ used mt,Val n g (F' ++ [b]) used mt → cntR n (F' ++ [b]) + cntM mt ≠ M) → FolI n g M F' (F',b + 1) := fun hx => ⟨rfl,by simp only []; omega,by simp only []; omega,fun b' p1 p2 p3 p4 => by
            simp only [] at p2
            by_cases e:b' = b
            · subst e; exact hx p3 p4
            · exact h.no b' p1 (by simp only []; omega) p3 p4⟩
          have sk:FolI n g M F' (F',b + 1) → StepT (FolI n g M F') (fun t:(List Int × Int × Bool × Bool × za1 × Int × List Int × List Int × Int × Int × Bool) ⊕ List Int => match t with
        | .inl v => v.1.length = F'.length + 1 ∧ Best n g M v.1
        | .inr F'' => F'' = F' ∧ FolI n g M F' (F',n)) (fun s => n - s.2.toNat) (F',b) (.inl (F',b + 1)) := fun hx => ⟨hx,by simp only []; omega⟩
          simp only [decide_eq_true hb,cond_true,hw3,hfol _ b ⟨by omega,hi⟩ hbR,Option.bind_some]
          cases hg:g F'.length b with
          | false => exact Tot.some (sk (skip fun q => by rw [hg] at q; cases q))
          | true =>
            simp only [cond_true,contains_eq (show F'.length < 1000 by omega),Option.bind_some]
            cases hh:hasB F' b with
            | true =>
              refine Tot.some (sk (skip fun _ q => absurd ?_ q))
              unfold hasB at hh
              obtain ⟨x,hx,e⟩ := List.any_eq_true.1 hh
              rw [← (by simpa using e:x = b)]; exact hx
            | false =>
              have hnb:b ∉ F' := fun hm => by
                unfold hasB at hh
                rw [List.any_eq_false] at hh
                exact hh b hm (by simp)
              have hap:appO 8 F' [b] = some (F' ++ [b]) := zp2 (by simp only [List.length_singleton]; omega)
              have hcl:appO 8 ([]:List Int) F' = some F' := zp2 (by simp only [List.length_nil]; omega)
              have hpb := h2.push (b := b) (by omega) ⟨by omega,by omega⟩ (fun _ => ⟨hg,hnb⟩)
              obtain ⟨u1,m1,r1,r2,r3,r4⟩ := hme _ hpb
              simp only [Bool.not_false,cond_true,zk,hcl,hap,Option.bind_some,r4]
              by_cases hv:cntR n (F' ++ [b]) + cntM m1 = M
              · have ev:(((cntR n (F' ++ [b]):Int) + (cntM m1:Int)) == (M:Int)) = true := by rw [beq_iff_eq]; omega
                simp only [ev,cond_true]
                exact Tot.some (show _ ∧ _ from ⟨by simp,hpb,u1,m1,⟨r1,r2,r3⟩,hv⟩)
              · have ev:(((cntR n (F' ++ [b]):Int) + (cntM m1:Int)) == (M:Int)) = false := by rw [beq_eq_false_iff_ne]; omega
                simp only [ev,cond_false]
                refine Tot.some (sk (skip fun _ _ u2 m2 v2 => ?_))
                have e1 := v2.most.most _ ⟨fun q hq => ?_,r3.m.f,r3.m.s⟩ r3.a
                · have e2 := r3.most _ ⟨fun q hq => ?_,v2.most.m.f,v2.most.m.s⟩ v2.most.a
                  · rw [zl9,zl9] at e1 e2
                    omega
                  · have he := v2.most.m.e q hq
                    refine ⟨he.1,he.2.1,he.2.2.1, ?_⟩
                    cases hu:sb u1 q.2 with
                    | false => rfl
                    | true =>
                      have := (v2.us.u q.2 he.2.1).2 ((r1.u q.2 he.2.1).1 hu)
                      rw [he.2.2.2] at this; cases this
                · have he := r3.m.e q hq
                  refine ⟨he.1,he.2.1,he.2.2.1, ?_⟩
                  cases hu:sb u2 q.2 with
                  | false => rfl
                  | true =>
                    have := (r1.u q.2 he.2.1).2 ((v2.us.u q.2 he.2.1).1 hu)
                    rw [he.2.2.2] at this; cases this
        · simp only [decide_eq_false hb,cond_false]
          have:b = n := by omega
          subst this
          exact Tot.some (show _ ∧ _ from ⟨rfl,h⟩)
      · intro t ht
        cases t with
        | inl v =>
          obtain ⟨k1,k2⟩ := ht
          exact Tot.some ⟨⟨by simp only []; omega,k2⟩,by simp only []; omega⟩
        | inr F' =>
          obtain ⟨rfl,k2⟩ := ht
          have hap:appO 8 F' [(n:Int)] = some (F' ++ [(n:Int)]) := zp2 (by simp only [List.length_singleton]; omega)
          simp only [zy5,hap,Option.bind_some]
          have hpb := h2.push (b := (n:Int)) (by omega) ⟨by omega,Int.le_refl _⟩ (fun q => by omega)
          obtain ⟨u1,m1,r1,r2,r3,r4⟩ := hme _ hpb
          have hle := zv32 hpb ⟨r1,r2,r3⟩ hmost
          have hge:cntR n F' + cntM mt ≤ cntR n (F' ++ [(n:Int)]) + cntM m1 := by
            refine zt31 h3 ⟨r1,r2,r3⟩ (by omega) ?_
            rintro ⟨b,hb⟩
            have he := h3.ok.isM.e _ hb
            have hgb := he.2.2.1
            have hbR := he.2.1
            simp only [] at hgb hbR
            have hnb:b ∉ F' := fun hm => by
              have := (h3.us.u b hbR).2 hm
              rw [he.2.2.2] at this; cases this
            have hbl := hlt _ _ hgb
            have hpr := h2.push (b := b) (by omega) ⟨hbR.1,by have := hbR.2; omega⟩ (fun _ => ⟨hgb,hnb⟩)
            obtain ⟨u2,m2,t1,t2,t3,t4⟩ := hme _ hpr
            have g1 := zv32 hpr ⟨t1,t2,t3⟩ hmost
            have g2 := zs31 h3 ⟨t1,t2,t3⟩ (by omega) hb
            exact k2.no b hbl hbR.2 hgb hnb u2 m2 ⟨t1,t2,t3⟩ (by omega)
          refine Tot.some ⟨⟨by simp,hpb,u1,m1,⟨r1,r2,r3⟩,by simp only []; omega⟩,by simp only [List.length_append,List.length_singleton]; omega⟩
    · simp only [decide_eq_false hi,cond_false]
      exact Tot.some ⟨by omega,h2,used,mt,h3,h4⟩
  · rintro F ⟨h1,h2,used,mt,h3,h4⟩
    refine Tot.some ⟨h1,h2, ?_⟩
    have:pr mt = [] := by
      match hp:pr mt with
      | [] => rfl
      | q :: _ =>
        have := h3.most.a q (by rw [hp]; exact List.mem_cons_self)
        omega
    have h5 := zl9 mt
    rw [this] at h5
    simp at h5
    omega
end
end Go.Ai.Sx.Du

/- The duties: what is reached from the ones that nobody follows. -/
namespace Go.Ai.Sx.Du
section
variable (n:Nat) (g:Int → Int → Bool) (mt:List Int)
structure Free (M:Nat) (a:Int) (sr:List Bool) (l:List (Int × Int)):Prop where
 m:IsM (Edg n g) l
 sz:l.length = M
 a:∀ q ∈ l,q.1 ≠ a
 same:∀ b,InR n b → sb sr b = false → ∀ x,(x,b) ∈ l ↔ (mb mt b = x ∧ 0 ≤ x)
structure RchO (a:Int) (sl sr:List Bool) (o:List Bool × List Bool):Prop where
 ll:o.1.length = n
 lr:o.2.length = n
 ml:∀ x,InR n x → sb sl x = true → sb o.1 x = true
 mr:∀ x,InR n x → sb sr x = true → sb o.2 x = true
 a:sb o.1 a = true
 cl:∀ x,InR n x → sb o.1 x = true → sb sl x = false → ∀ b,InR n b → g x b = true → sb o.2 b = true
 cr:∀ b,InR n b → sb o.2 b = true → sb sr b = false → 0 ≤ mb mt b ∧ sb o.1 (mb mt b) = true
end
section
variable {n:Nat} {g:Int → Int → Bool} {mt:List Int}
theorem Free.grow {M:Nat} {a:Int} {sr sr':List Bool} {l:List (Int × Int)} (h:Free n g mt M a sr l) (hs:∀ b,InR n b → sb sr b = true → sb sr' b = true):Free n g mt M a sr' l :=
 ⟨h.m,h.sz,h.a,fun b hb q => h.same b hb (by
  cases h1:sb sr b with
  | false => rfl
  | true => rw [hs b hb h1] at q; cases q)⟩
theorem Free.step {M:Nat} {a b:Int} {sr:List Bool} {l l0:List (Int × Int)} (h:Free n g mt M a sr l) (hmost:Most (Edg n g) (fun x => 0 ≤ x ∧ x < n) l0) (hM:l0.length = M) (ha:InR n a) (hb:InR n b) (hls:sr.length = n) (hs:sb sr b = false) (hg:g a b = true) :
    0 ≤ mb mt b ∧ ∃ l',Free n g mt M (mb mt b) (sr.set b.toNat true) l' := by
  have hsame := h.same b hb hs
  have hge:0 ≤ mb mt b := by
    by_cases h1:0 ≤ mb mt b
    · exact h1
    · have hno:∀ q ∈ l,q.2 ≠ b := fun q hq e => by
        have := (hsame q.1).1 (by rw [← e]; exact hq)
        omega
      have hbig:IsM (Edg n g) (l ++ [(a,b)]) := h.m.append ⟨fun q hq => by rw [List.mem_singleton.1 hq]; exact ⟨ha,hb,hg⟩,by simp,by simp⟩ (fun p hp q hq e => by
        rw [List.mem_singleton.1 hq] at e; exact h.a p hp e) (fun p hp q hq e => by
        rw [List.mem_singleton.1 hq] at e; exact hno p hp e)
      have := hmost.most _ hbig fun q hq => (hbig.e q hq).1
      rw [List.length_append,h.sz,List.length_singleton] at this
      omega
  refine ⟨hge,(l.filter fun q => q.2 != b) ++ [(a,b)], ?_⟩
  have hyb:(mb mt b,b) ∈ l := (hsame _).2 ⟨rfl,hge⟩
  have hf := h.m.filter (fun q => q.2 != b)
  have hm:IsM (Edg n g) ((l.filter fun q => q.2 != b) ++ [(a,b)]) := hf.append ⟨fun q hq => by rw [List.mem_singleton.1 hq]; exact ⟨ha,hb,hg⟩,by simp,by simp⟩ (fun p hp q hq e => by
    rw [List.mem_singleton.1 hq] at e; exact h.a p (List.mem_filter.1 hp).1 e) (fun p hp q hq e => by
    rw [List.mem_singleton.1 hq] at e
    have := (List.mem_filter.1 hp).2
    rw [e] at this
    simp at this)
  have hlen:∀ l:List (Int × Int),(l.map (·.2)).Nodup → (∃ x,(x,b) ∈ l) → (l.filter fun q => q.2 != b).length + 1 = l.length := by
    intro l
    induction l with
    | nil => rintro _ ⟨x,hx⟩; cases hx
    | cons q l ih =>
      intro hn hx
      rw [List.map_cons,List.nodup_cons] at hn
      by_cases e:q.2 = b
      · have e2:(q.2 != b) = false := by simpa using e
        have hall:l.filter (fun q => q.2 != b) = l := List.filter_eq_self.2 fun p hp => by
          simp only [bne_iff_ne,ne_eq]
          intro e3
          exact hn.1 (by rw [e,← e3]; exact List.mem_map_of_mem hp)
        simp only [List.filter_cons,e2,Bool.false_eq_true,if_false,List.length_cons,hall]
      · have e2:(q.2 != b) = true := by simpa using e
        obtain ⟨x,hx⟩ := hx
        have := ih hn.2 ⟨x,by
          rcases List.mem_cons.1 hx with h4 | h4
          · exact (e (by rw [← h4])).elim
          · exact h4⟩
        simp only [List.filter_cons,e2,if_true,List.length_cons]
        omega
  refine ⟨hm, ?_,fun q hq e => ?_,fun x hx q y => ?_⟩
  · rw [List.length_append,List.length_singleton,hlen l h.m.s ⟨_,hyb⟩,h.sz]
  · rcases List.mem_append.1 hq with hq | hq
    · have h1 := List.mem_filter.1 hq
      have := zm6 h.m.f h1.1 hyb e
      rw [this] at h1
      simp at h1
    · rw [List.mem_singleton.1 hq] at e
      exact h.a _ hyb e.symm
  · rw [zr8 hls hb hx] at q
    by_cases e:b = x
    · rw [if_pos e] at q; cases q
    · rw [if_neg e] at q
      rw [List.mem_append,List.mem_singleton,List.mem_filter,← h.same x hx q y]
      constructor
      · rintro (h1 | h1)
        · exact h1.1
        · exact (e (by have := congrArg (·.2) h1; exact this.symm)).elim
      · intro h1
        exact .inl ⟨h1,by simp only [bne_iff_ne,ne_eq]; exact fun e2 => e e2.symm⟩
end
end Go.Ai.Sx.Du

/- The duties: what is reached,in the program. -/
namespace Go.Ai.Sx.Du
section
variable {n:Nat} {g:Int → Int → Bool} {mt:List Int}
structure RchI (n:Nat) (g:Int → Int → Bool) (mt:List Int) (a:Int) (sl sr:List Bool) (s:Int × List Bool × List Bool):Prop where
 lo:0 ≤ s.1
 hi:s.1 ≤ n
 ll:s.2.1.length = n
 lr:s.2.2.length = n
 c:cntF s.2.2 ≤ cntF sr
 ml:∀ x,InR n x → sb sl x = true → sb s.2.1 x = true
 mr:∀ x,InR n x → sb sr x = true → sb s.2.2 x = true
 me:sb s.2.1 a = true
 don:∀ b,InR n b → b < s.1 → g a b = true → sb s.2.2 b = true
 cl:∀ x,InR n x → x ≠ a → sb s.2.1 x = true → sb sl x = false → ∀ b,InR n b → g x b = true → sb s.2.2 b = true
 cr:∀ b,InR n b → sb s.2.2 b = true → sb sr b = false → 0 ≤ mb mt b ∧ sb s.2.1 (mb mt b) = true
theorem zu31 {w:za1} (hfol:∀ a b,InR n a → InR n b → zp w a b = some (g a b)) (hn:n < 1000) (hlm:mt.length = n) (hrng:∀ b,InR n b → mb mt b < n) {M:Nat} {l0:List (Int × Int)} (hmost:Most (Edg n g) (fun x => 0 ≤ x ∧ x < n) l0) (hM:l0.length = M) :
    ∀ k a sl sr,InR n a → sl.length = n → sr.length = n → (∃ l,Free n g mt M a sr l) → cntF sr < k → Tot (fun o => RchO n g mt a sl sr o ∧ cntF o.2 ≤ cntF sr) (zu4 k a sl n w sr mt) := by
  intro k
  induction k with
  | zero => intro a sl sr _ _ _ _ hk; omega
  | succ k ih =>
    intro a sl sr ha hl1 hl2 ⟨l,hfr⟩ hk
    have ha' := ha
    unfold InR at ha'
    show Tot _ (zz3 (zu4 k) a sl n w sr mt)
    unfold zz3
    simp only [zj (d := false) (l := sl) ha'.1 (by omega),Option.bind_some]
    cases hsa:sl.getD a.toNat false with
    | true =>
      exact Tot.some ⟨⟨hl1,hl2,fun _ _ q => q,fun _ _ q => q,hsa,fun x _ p q => (by simp only [] at p; rw [p] at q; cases q),fun x _ p q => (by simp only [] at p; rw [p] at q; cases q)⟩,Nat.le_refl _⟩
    | false =>
      simp only [cond_false]
      have hset:∀ x,InR n x → sb (sl.set a.toNat true) x = if a = x then true else sb sl x := fun x hx => zr8 hl1 ha hx
      refine Tot.bind (Q := fun t:List Bool × List Bool => RchO n g mt a sl sr t ∧ cntF t.2 ≤ cntF sr) (Tot.iter (RchI n g mt a sl sr) _ (fun s => n - s.1.toNat) ?_ (by first | (simp only [big]; omega) | omega) ?_) ?_
      · refine ⟨Int.le_refl _,by simp only []; omega,by simp only [List.length_set]; exact hl1,hl2,Nat.le_refl _,fun x hx q => by simp only []; rw [hset x hx,q]; exact ite_self _,fun _ _ q => q,by simp only []; rw [hset a ha,if_pos rfl],fun b hb q => by unfold InR at hb; simp only [] at q; omega,fun x hx hxa p q => ?_,fun b _ p q => by simp only [] at p; rw [p] at q; cases q⟩
        simp only [] at p
        rw [hset x hx,if_neg (fun e => hxa e.symm),q] at p
        cases p
      · rintro ⟨b,cl,cr⟩ i
        have i1 := i.lo
        have i2 := i.hi
        have i3 := i.ll
        have i4 := i.lr
        have i5 := i.c
        simp only [] at i1 i2 i3 i4 i5
        by_cases hb:b < n
        · have hbR:InR n b := ⟨i1,hb⟩
          have hw:w64 (b + 1) = b + 1 := zn (by omega) (by omega)
          have skip:(g a b = true → sb cr b = true) → RchI n g mt a sl sr (b + 1,cl,cr) := fun hx => ⟨by simp only []; omega,by simp only []; omega,i3,i4,i5,i.ml,i.mr,i.me,fun b' hb' q1 q2 => by
            simp only [] at q1
            by_cases e:b' = b
            · subst e; exact hx q2
            · exact i.don b' hb' (by simp only []; omega) q2,i.cl,i.cr⟩
          simp only [decide_eq_true hb,cond_true,hfol a b ha hbR,Option.bind_some,hw]
          cases hg:g a b with
          | false => exact Tot.some ⟨skip (fun q => by rw [hg] at q; cases q),by simp only []; omega⟩
          | true =>
            simp only [cond_true,zj (d := false) (l := cr) i1 (by omega),Option.bind_some]
            cases hs:cr.getD b.toNat false with
            | true => exact Tot.some ⟨skip (fun _ => hs),by simp only []; omega⟩
            | false =>
              have hfr':Free n g mt M a cr l := hfr.grow i.mr
              obtain ⟨hge,l',hfr2⟩ := hfr'.step hmost hM ha hbR i4 hs hg
              have hmb:mb mt b = mt.getD b.toNat (-1) := rfl
              simp only [Bool.not_false,cond_true,zj (d := (-1:Int)) (l := mt) i1 (by omega),Option.bind_some,← hmb,decide_eq_true (show mb mt b ≥ 0 from hge)]
              have hcf := zg18 (n := n) i4 hbR hs
              refine Tot.bind (ih (mb mt b) cl (cr.set b.toNat true) ⟨hge,hrng b hbR⟩ i3 (by rw [List.length_set]; exact i4) ⟨l',hfr2⟩ (by omega)) ?_
              rintro o ⟨ho,hoc⟩
              have hcs:∀ x,InR n x → sb (cr.set b.toNat true) x = if b = x then true else sb cr x := fun x hx => zr8 i4 hbR hx
              have hm1:∀ x,InR n x → sb cr x = true → sb o.2 x = true := fun x hx q => ho.mr x hx (by rw [hcs x hx,q]; exact ite_self _)
              have hm2:sb o.2 b = true := ho.mr b hbR (by rw [hcs b hbR,if_pos rfl])
              refine Tot.some ⟨⟨by simp only []; omega,by simp only []; omega,ho.ll,ho.lr,by simp only []; omega,fun x hx q => ho.ml x hx (i.ml x hx q),fun x hx q => hm1 x hx (i.mr x hx q),ho.ml a ha i.me,fun b' hb' q1 q2 => ?_,fun x hx hxa p q b' hb' hg' => ?_,fun b' hb' p q => ?_⟩,by simp only []; omega⟩
              · simp only [] at q1
                by_cases e:b' = b
                · subst e; exact hm2
                · exact hm1 b' hb' (i.don b' hb' (by simp only []; omega) q2)
              · cases hc:sb cl x with
                | true => exact hm1 b' hb' (i.cl x hx hxa hc q b' hb' hg')
                | false => exact ho.cl x hx p hc b' hb' hg'
              · cases hc:sb cr b' with
                | true =>
                  obtain ⟨p1,p2⟩ := i.cr b' hb' hc q
                  exact ⟨p1,ho.ml _ ⟨p1,hrng b' hb'⟩ p2⟩
                | false =>
                  by_cases e:b = b'
                  · subst e; exact ⟨hge,ho.a⟩
                  · exact ho.cr b' hb' p (by rw [hcs b' hb',if_neg e]; exact hc)
        · simp only [decide_eq_false hb,cond_false]
          refine Tot.some (show RchO n g mt a sl sr (cl,cr) ∧ _ from ⟨⟨i3,i4,i.ml,i.mr,i.me,fun x hx p q b' hb' hg' => ?_,i.cr⟩,i5⟩)
          by_cases e:x = a
          · subst e
            exact i.don b' hb' (by unfold InR at hb'; simp only []; omega) hg'
          · exact i.cl x hx e p q b' hb' hg'
      · rintro t ht
        exact Tot.some ht
end
end Go.Ai.Sx.Du

/- The duties: the cover that the marks make,and what a cover says of all plans. -/
namespace Go.Ai.Sx.Du
theorem zp10 {A B:Type} (f:A → B) (l:List A):l.length = (l.map f).length := (List.length_map f).symm
theorem zj28 {n:Nat} {F mt:List Int} {L R:List Bool} (hF:F.length = n) (hpv:∀ b,InR n b → 0 ≤ mb mt b → InR n (mb mt b) ∧ F.getD (mb mt b).toNat 0 = b) (h1:∀ x:Nat,x < n → F.getD x 0 = n → L.getD x false = true) (hle:∀ x:Nat,x < n → F.getD x 0 ≤ n) (h3:∀ b,InR n b → sb R b = true → 0 ≤ mb mt b ∧ sb L (mb mt b) = true) :
    ((List.range n).filter fun x => !L.getD x false).length + ((List.range n).filter fun b => R.getD b false).length ≤ cntR n F := by
  have hc:((List.range n).filter fun i => decide (F.getD i 0 < (n:Int))).length = cntR n F := by
    rw [← hF]; exact zu11 (fun x => decide (x < (F.length:Int))) 0 F
  rw [← hc,zp10 (fun b:Nat => (mb mt b).toNat) ((List.range n).filter fun b => R.getD b false),← List.length_append]
  have hR:∀ b ∈ (List.range n).filter (fun b => R.getD b false),InR n (b:Int) ∧ 0 ≤ mb mt b ∧ sb L (mb mt b) = true ∧ InR n (mb mt b) ∧ F.getD (mb mt b).toNat 0 = b := fun b hb => by
    have h4 := List.mem_filter.1 hb
    have h5:InR n (b:Int) := ⟨by omega,by have := List.mem_range.1 h4.1; omega⟩
    have h6 := h3 b h5 (by unfold sb; simpa using h4.2)
    have h7 := hpv b h5 h6.1
    exact ⟨h5,h6.1,h6.2,h7.1,h7.2⟩
  refine zf4 ?_ ?_
  · rw [List.nodup_append]
    refine ⟨List.nodup_range.filter _,zq2 (List.nodup_range.filter _) fun x hx y hy e => ?_,fun x hx y hy e => ?_⟩
    · obtain ⟨_,x1,_,_,x2⟩ := hR x hx
      obtain ⟨_,y1,_,_,y2⟩ := hR y hy
      have e2:(mb mt x).toNat = (mb mt y).toNat := e
      rw [e2,y2] at x2
      omega
    · obtain ⟨b,hb,rfl⟩ := List.mem_map.1 hy
      obtain ⟨_,_,x3,_,_⟩ := hR b hb
      have h4 := (List.mem_filter.1 hx).2
      unfold sb at x3
      rw [← e] at x3
      rw [x3] at h4
      cases h4
  · intro x hx
    rcases List.mem_append.1 hx with hx | hx
    · have h4 := List.mem_filter.1 hx
      have h5 := List.mem_range.1 h4.1
      refine List.mem_filter.2 ⟨h4.1,decide_eq_true ?_⟩
      have h6 := hle x h5
      by_cases e:F.getD x 0 = n
      · rw [h1 x h5 e] at h4; simp at h4
      · omega
    · obtain ⟨b,hb,rfl⟩ := List.mem_map.1 hx
      obtain ⟨x1,_,_,x4,x5⟩ := hR b hb
      unfold InR at x1 x4
      exact List.mem_filter.2 ⟨List.mem_range.2 (by omega),decide_eq_true (by rw [x5]; exact x1.2)⟩
end Go.Ai.Sx.Du

/- The duties: a plan of cars has a link less than tasks for each car. -/
namespace Go.Ai.Sx.Du
section
variable {n:Nat} {g:Int → Int → Bool}
structure Lnk (n:Nat) (g:Int → Int → Bool) (us:List Bool) (rows c:Int) (l:List (Int × Int)):Prop where
 m:IsM (Edg n g) l
 u:∀ q ∈ l,sb us q.1 = true ∧ sb us q.2 = true
 c:(l.length:Int) + rows = c
structure LnkR (n:Nat) (g:Int → Int → Bool) (row:List Int) (rows:Int) (s:Int × Int × List Bool):Prop where
 lo:0 ≤ s.2.1
 hi:s.2.1 ≤ row.length
 us:s.2.2.length = n
 ok:∀ k:Nat,(k:Int) < s.2.1 → InR n (row.getD k 0)
 l:∃ l,Lnk n g s.2.2 (rows + (if s.2.1 = 0 then 0 else 1)) s.1 l ∧ (0 < s.2.1 → sb s.2.2 (row.getD (s.2.1 - 1).toNat 0) = true ∧ ∀ q ∈ l,q.1 ≠ row.getD (s.2.1 - 1).toNat 0)
 cn:0 ≤ s.1 ∧ s.1 ≤ 1000 * rows + s.2.1
theorem zo35 {t:List Task} {y:Yard} (hF:Few t y) (hf:fine t y = true) {row:List Int} (hr:row.length ≤ 1000) {c0 rows:Int} (hrows:0 ≤ rows ∧ rows ≤ 1000) {us:List Bool} (hu:us.length = t.length) (hcn:0 ≤ c0 ∧ c0 ≤ 1000 * rows) (hl:∃ l,Lnk t.length (follB t y) us rows c0 l) (hne:row.length ≠ 0) :
    Tot (fun r:(Int × List Bool) ⊕ (Bool × List Bool) => match r with
      | .inl v => v.2.length = t.length ∧ (∃ l,Lnk t.length (follB t y) v.2 (rows + 1) v.1 l) ∧ 0 ≤ v.1 ∧ v.1 ≤ 1000 * (rows + 1)
      | .inr v => v.1 = false) (iter (σ := (Int × Int × (List Bool))) (τ := (Int × (List Bool)) ⊕ (Bool × (List Bool))) (fun s366 =>
cond ((decide (s366.2.1 < (lenI row)))) (Option.bind (idx row s366.2.1) fun x369 =>
Option.bind (zh1 x369 0 ((w64 ((lenI t) - 1)))) fun y377 =>
cond ((!y377)) (some (.inr ((.inr ((false,s366.2.2)))))) (Option.bind (idx s366.2.2 x369) fun x380 =>
cond (x380) (some (.inr ((.inr ((false,s366.2.2)))))) (cond ((decide (s366.2.1 > 0))) (Option.bind (idx row ((w64 (s366.2.1 - 1)))) fun x384 =>
Option.bind (zp (t,y,()) x384 x369) fun y385 =>
cond ((!y385)) (some (.inr ((.inr ((false,s366.2.2)))))) (Option.bind (idx s366.2.2 x369) fun _ =>
some (.inl (((w64 (s366.1 + 1)),(w64 (s366.2.1 + 1)),(s366.2.2).set (Int.toNat x369) true))))) (Option.bind (idx s366.2.2 x369) fun _ =>
some (.inl (((w64 (s366.1 + 1)),(w64 (s366.2.1 + 1)),(s366.2.2).set (Int.toNat x369) true))))))) (some (.inr ((.inl ((s366.1,s366.2.2))))))) big (c0,0,us)) := by
  have ht := hF.t
  refine Tot.iter (LnkR t.length (follB t y) row rows) _ (fun s => row.length - s.2.1.toNat) ?_ (by simp only [big]; omega) ?_
  · obtain ⟨l,hl⟩ := hl
    exact ⟨Int.le_refl _,by simp only []; omega,hu,fun k hk => by simp only [] at hk; omega,⟨l,by simpa using hl,fun h => by simp at h⟩,by simp only []; omega⟩
  rintro ⟨c,j,us⟩ h
  have h1 := h.lo
  have h2 := h.hi
  have h3 := h.us
  have h4 := h.cn
  obtain ⟨l,hlk,hlast⟩ := h.l
  simp only [] at h1 h2 h3 h4 hlk hlast
  have hw:w64 (lenI t - 1) = (t.length:Int) - 1 := by rw [zh]; exact zn (by omega) (by omega)
  simp only [within_eq,Option.bind_some,hw]
  by_cases hj:j < row.length
  · have hx := zj (d := (0:Int)) h1 hj
    obtain ⟨x,hxe⟩:∃ x,row.getD j.toNat 0 = x := ⟨_,rfl⟩
    rw [hxe] at hx
    simp only [decide_eq_true (show j < lenI row from hj),cond_true,hx,Option.bind_some]
    by_cases hin:0 ≤ x ∧ x < t.length
    · have e2:(decide (0 ≤ x) && decide (x ≤ (t.length:Int) - 1)) = true := by simp only [Bool.and_eq_true,decide_eq_true_eq]; omega
      have hxR:InR t.length x := hin
      have hw2:w64 (j + 1) = j + 1 := zn (by omega) (by omega)
      have hw4:w64 (c + 1) = c + 1 := zn (by omega) (by omega)
      simp only [e2,Bool.not_true,cond_false,zj (d := false) (l := us) hin.1 (by omega),Option.bind_some,hw2,hw4]
      cases hux:us.getD x.toNat false with
      | true => exact Tot.some (show _ = _ from rfl)
      | false =>
        simp only [cond_false]
        have hsu:∀ z,InR t.length z → sb (us.set x.toNat true) z = if x = z then true else sb us z := fun z hz => zr8 h3 hxR hz
        have hmono:∀ z,InR t.length z → sb us z = true → sb (us.set x.toNat true) z = true := fun z hz q => by rw [hsu z hz,q]; exact ite_self _
        have hnx:∀ z,InR t.length z → sb us z = true → z ≠ x := fun z _ q e => by
          rw [e] at q
          unfold sb at q
          rw [hux] at q
          cases q
        have okn:∀ k:Nat,(k:Int) < j + 1 → InR t.length (row.getD k 0) := fun k hk => by
          by_cases e:(k:Int) < j
          · exact h.ok k e
          · have:k = j.toNat := by omega
            subst this
            rw [hxe]; exact hxR
        have hj1:(j + 1 - 1).toNat = j.toNat := by omega
        by_cases hj0:j > 0
        · have hw3:w64 (j - 1) = j - 1 := zn (by omega) (by omega)
          have hpr := h.ok (j - 1).toNat (by simp only []; omega)
          obtain ⟨hl1,hl2⟩ := hlast hj0
          obtain ⟨z,hze⟩:∃ z,row.getD (j - 1).toNat 0 = z := ⟨_,rfl⟩
          have hz := zj (d := (0:Int)) (show 0 ≤ j - 1 by omega) (show j - 1 < row.length by omega)
          rw [hze] at hpr hl1 hl2 hz
          simp only [decide_eq_true hj0,cond_true,hw3,hz,Option.bind_some,zc6 hf hpr hxR]
          cases hg:follB t y z x with
          | false => exact Tot.some (show _ = _ from rfl)
          | true =>
            simp only [Bool.not_true,cond_false]
            have hm2:IsM (Edg t.length (follB t y)) (l ++ [(z,x)]) := hlk.m.append ⟨fun q hq => by rw [List.mem_singleton.1 hq]; exact ⟨hpr,hxR,hg⟩,by simp,by simp⟩ (fun p hp q hq e => by
              rw [List.mem_singleton.1 hq] at e; exact hl2 p hp e) (fun p hp q hq e => by
              rw [List.mem_singleton.1 hq] at e
              exact hnx p.2 (hlk.m.e p hp).2.1 (hlk.u p hp).2 e)
            refine Tot.some ⟨⟨by simp only []; omega,by simp only []; omega,by simp only [List.length_set]; exact h3,okn,⟨l ++ [(z,x)],⟨hm2,fun q hq => ?_, ?_⟩,fun _ => ⟨?_,fun q hq => ?_⟩⟩,by simp only []; omega⟩,by simp only []; omega⟩
            · simp only []
              rcases List.mem_append.1 hq with hq | hq
              · have he := hlk.m.e q hq
                have hu := hlk.u q hq
                exact ⟨hmono _ he.1 hu.1,hmono _ he.2.1 hu.2⟩
              · rw [List.mem_singleton.1 hq]
                exact ⟨hmono _ hpr hl1,by simp only []; rw [hsu x hxR,if_pos rfl]⟩
            · have := hlk.c
              rw [if_neg (by omega)] at this
              rw [if_neg (by simp only []; omega),List.length_append,List.length_singleton]
              simp only []
              omega
            · simp only []; rw [hj1,hxe,hsu x hxR,if_pos rfl]
            · simp only []; rw [hj1,hxe]
              rcases List.mem_append.1 hq with hq | hq
              · exact hnx q.1 (hlk.m.e q hq).1 (hlk.u q hq).1
              · rw [List.mem_singleton.1 hq]
                exact hnx z hpr hl1
        · have e0:j = 0 := by omega
          subst e0
          simp only [decide_eq_false hj0,cond_false]
          refine Tot.some ⟨⟨by simp only []; omega,by simp only []; omega,by simp only [List.length_set]; exact h3,okn,⟨l,⟨hlk.m,fun q hq => ?_, ?_⟩,fun _ => ⟨?_,fun q hq => ?_⟩⟩,by simp only []; omega⟩,by simp only []; omega⟩
          · have he := hlk.m.e q hq
            have hu := hlk.u q hq
            exact ⟨hmono _ he.1 hu.1,hmono _ he.2.1 hu.2⟩
          · have := hlk.c
            rw [if_pos rfl] at this
            rw [if_neg (by simp only []; omega)]
            simp only []
            omega
          · simp only []; rw [hj1,hxe,hsu x hxR,if_pos rfl]
          · simp only []; rw [hj1,hxe]
            exact hnx q.1 (hlk.m.e q hq).1 (hlk.u q hq).1
    · have e2:(decide (0 ≤ x) && decide (x ≤ (t.length:Int) - 1)) = false := by simp only [Bool.and_eq_false_iff,decide_eq_false_iff_not]; omega
      simp only [e2,Bool.not_false,cond_true]
      exact Tot.some (show _ = _ from rfl)
  · simp only [decide_eq_false (show ¬ j < lenI row from hj),cond_false]
    have:j = row.length := by omega
    subst this
    rw [if_neg (by omega)] at hlk
    exact Tot.some ⟨h3,⟨l,hlk⟩,by omega,by omega⟩
end
end Go.Ai.Sx.Du

/- The duties: a plan of cars is a matching. -/
namespace Go.Ai.Sx.Du
structure LnkP (n:Nat) (g:Int → Int → Bool) (p:List (List Int)) (s:Int × Int × List Bool):Prop where
 lo:0 ≤ s.2.1
 hi:s.2.1 ≤ p.length
 us:s.2.2.length = n
 l:∃ l,Lnk n g s.2.2 s.2.1 s.1 l
 cn:0 ≤ s.1 ∧ s.1 ≤ 1000 * s.2.1
 nz:∀ k:Nat,(k:Int) < s.2.1 → 0 < (p.getD k []).length
theorem zv31 {t:List Task} {y:Yard} (hF:Few t y) (hf:fine t y = true) {p:List (List Int)} (hp:p.length ≤ 80) (hrow:∀ r ∈ p,r.length ≤ 80) (h:zw (t,y,()) p = some true):∃ l,IsM (Edg t.length (follB t y)) l ∧ l.length + p.length = t.length := by
  suffices hs:Tot (fun b:Bool => b = true → ∃ l,IsM (Edg t.length (follB t y)) l ∧ l.length + p.length = t.length) (zw (t,y,()) p) by
    obtain ⟨b,h1,h2⟩ := hs
    rw [h] at h1
    cases h1
    exact h2 rfl
  have ht := hF.t
  clear h
  unfold zw
  have hm:mkO 1 (lenI t) (false:Bool) = some (List.replicate t.length false) := by
    rw [zh,zq5 (by omega)]; simp
  simp only [hm,Option.bind_some]
  refine Tot.bind (Q := fun r:(Int × List Bool) ⊕ Bool => match r with
    | .inl v => ∃ l,Lnk t.length (follB t y) v.2 p.length v.1 l
    | .inr v => v = false) (Tot.iter (LnkP t.length (follB t y) p) _ (fun s => p.length - s.2.1.toNat) ?_ (by first | (simp only [big]; omega) | omega) ?_) ?_
  · exact ⟨Int.le_refl _,by simp only []; omega,by simp,⟨[],⟨⟨by simp,by simp,by simp⟩,by simp,by simp⟩⟩,by simp only []; omega,fun k hk => by simp only [] at hk; omega⟩
  · rintro ⟨c,i,us⟩ h
    have h1 := h.lo
    have h2 := h.hi
    have h3 := h.us
    have h4 := h.cn
    have h5 := h.l
    simp only [] at h1 h2 h3 h4 h5
    by_cases hi:i < p.length
    · have hx := zj (d := ([]:List Int)) h1 hi
      have hmem:p.getD i.toNat [] ∈ p := zj1 (by omega)
      have hl := hrow _ hmem
      have hw2:w64 (i + 1) = i + 1 := zn (by omega) (by omega)
      simp only [decide_eq_true (show i < lenI p from hi),cond_true,hx,Option.bind_some]
      by_cases h0:(p.getD i.toNat []).length = 0
      · have e2:(lenI (p.getD i.toNat []) == 0) = true := by simp only [zh,beq_iff_eq]; omega
        simp only [e2,cond_true]
        exact Tot.some (show _ = _ from rfl)
      · have e2:(lenI (p.getD i.toNat []) == 0) = false := by rw [beq_eq_false_iff_ne]; simp only [zh]; omega
        simp only [e2,cond_false,hw2]
        have hr := zo35 hF hf (row := p.getD i.toNat []) (by omega) (c0 := c) (rows := i) ⟨h1,by omega⟩ h3 h4 h5 h0
        obtain ⟨r,hr1,hr2⟩ := hr
        have fin:∀ r,(match r with
            | .inl v => v.2.length = t.length ∧ (∃ l,Lnk t.length (follB t y) v.2 (i + 1) v.1 l) ∧ 0 ≤ v.1 ∧ v.1 ≤ 1000 * (i + 1)
            | .inr v => v.1 = false:Prop) → Tot (StepT (LnkP t.length (follB t y) p) (fun r:(Int × List Bool) ⊕ Bool => match r with
    | .inl v => ∃ l,Lnk t.length (follB t y) v.2 p.length v.1 l
    | .inr v => v = false) (fun s => p.length - s.2.1.toNat) (c,i,us)) (alt (fun b392:Int × List Bool => some (.inl ((b392.1,i + 1,b392.2)))) (fun b393:Bool × List Bool => some (.inr ((.inr b393.1)))) r) := fun r hr => by
          cases r with
          | inl v => exact Tot.some ⟨⟨by simp only []; omega,by simp only []; omega,hr.1,hr.2.1,hr.2.2,fun k hk => by
            simp only [] at hk
            by_cases hki:(k:Int) < i
            · exact h.nz k hki
            · have:k = i.toNat := by omega
              subst this; omega⟩,by simp only []; omega⟩
          | inr v => exact Tot.some (show _ = _ from hr)
        by_cases hi0:i > 0
        · have hw3:w64 (i - 1) = i - 1 := zn (by omega) (by omega)
          simp only [decide_eq_true hi0,cond_true,hw3,zj (d := ([]:List Int)) (show 0 ≤ i - 1 by omega) (show i - 1 < p.length by omega),zj (d := (0:Int)) (Int.le_refl 0) (show (0:Int) < (p.getD i.toNat []).length by omega),Option.bind_some]
          have hnz := h.nz (i - 1).toNat (by simp only []; omega)
          simp only [zj (d := (0:Int)) (Int.le_refl 0) (show (0:Int) < (p.getD (i - 1).toNat []).length by omega),Option.bind_some,hr1]
          cases decide ((p.getD i.toNat []).getD (Int.toNat 0) 0 ≤ (p.getD (i - 1).toNat []).getD (Int.toNat 0) 0) with
          | true => exact Tot.some (show _ = _ from rfl)
          | false => exact fin r hr2
        · simp only [decide_eq_false hi0,cond_false,hr1,Option.bind_some]
          exact fin r hr2
    · simp only [decide_eq_false (show ¬ i < lenI p from hi),cond_false]
      have:i = p.length := by omega
      subst this
      exact Tot.some (show ∃ l,_ from h5)
  · intro r hr
    cases r with
    | inl v =>
      obtain ⟨l,hl⟩ := hr
      simp only [zg5]
      refine Tot.some fun e => ⟨l,hl.m, ?_⟩
      have := hl.c
      rw [beq_iff_eq,zh] at e
      omega
    | inr v =>
      have e:v = false := hr
      subst e
      exact Tot.some fun e => by cases e
end Go.Ai.Sx.Du

/- The duties: the chains of the followers. -/
namespace Go.Ai.Sx.Du
def fx (F:List Int) (x:Int):Int := F.getD x.toNat 0
structure Fol (n:Nat) (F:List Int):Prop where
 len:F.length = n
 rng:∀ x,InR n x → x < fx F x ∧ fx F x ≤ n
 inj:∀ x y,InR n x → InR n y → fx F x < n → fx F x = fx F y → x = y
inductive Ch (n:Nat) (F:List Int) (s:Int):Int → Prop where
 | refl:Ch n F s s
 | step {x y:Int} (h:Ch n F s x) (hx:InR n x) (e:fx F x = y) (hy:y < n):Ch n F s y
section
variable {n:Nat} {F:List Int} {s x c:Int}
theorem Ch.inR (h:Fol n F) (hs:InR n s) (q:Ch n F s x):InR n x ∧ s ≤ x := by
 induction q with
 | refl => exact ⟨hs,Int.le_refl _⟩
 | step q hx e hy ih =>
  have := h.rng _ hx
  unfold InR at *
  omega
theorem Ch.next (h:Fol n F) (hs:InR n s):∀ k:Nat,∀ x c,x.toNat < k → Ch n F s x → Ch n F s c → c < x → fx F c ≤ x := by
 intro k
 induction k with
 | zero => intro x c hk; omega
 | succ k ih =>
  intro x c hk hx hc hlt
  have ic := hc.inR h hs
  cases hx with
  | refl => omega
  | @step x' _ q hx' e hy =>
   have h1 := h.rng x' hx'
   have iq := q.inR h hs
   unfold InR at ic iq hx'
   rcases Int.lt_trichotomy c x' with h2 | h2 | h2
   ·have := ih x' c (by omega) q hc h2
    omega
   ·subst h2; omega
   ·have := ih c x' (by omega) hc q h2
    omega
theorem Ch.apart (h:Fol n F) {s':Int} (hs:InR n s) (hs':InR n s') (h0:∀ z,InR n z → fx F z ≠ s) (h0':∀ z,InR n z → fx F z ≠ s') (q:Ch n F s x) (q':Ch n F s' x):s = s' := by
 induction q with
 | refl =>
  cases q' with
  | refl => rfl
  | @step x' _ q hx' e hy => exact (h0 x' hx' e).elim
 | @step z y q hz e hy ih =>
  cases q' with
  | refl => exact (h0' z hz e).elim
  | @step x' _ q2 hx' e2 hy2 =>
   have := h.inj z x' hz hx' (by omega) (by omega)
   subst this
   exact ih q2
theorem Ch.some (h:Fol n F):∀ k:Nat,∀ x,InR n x → x.toNat < k → ∃ s,InR n s ∧ s ≤ x ∧ (∀ z,InR n z → fx F z ≠ s) ∧ Ch n F s x := by
 intro k
 induction k with
 | zero => intro x _ hk; omega
 | succ k ih =>
  intro x hx hk
  by_cases hp:∃ z,InR n z ∧ fx F z = x
  ·obtain ⟨z,hz,e⟩ := hp
   have h1 := h.rng z hz
   have hz' := hz
   unfold InR at hz' hx
   obtain ⟨s,h2,h3,h4,h5⟩ := ih z hz (by omega)
   exact ⟨s,h2,by omega,h4,h5.step hz e hx.2⟩
  ·exact ⟨x,hx,Int.le_refl _,fun z hz e => hp ⟨z,hz,e⟩,.refl⟩
end
end Go.Ai.Sx.Du

/- The duties: what makes a plan of cars one. -/
namespace Go.Ai.Sx.Du
structure MarkI (n:Nat) (A row:List Int) (s:Int × Int × List Bool):Prop where
 lo:0 ≤ s.2.1
 hi:s.2.1 ≤ row.length
 us:s.2.2.length = n
 u:∀ x,InR n x → (sb s.2.2 x = true ↔ x ∈ A ++ row.take s.2.1.toNat)
 c:s.1 = (A.length:Int) + s.2.1
theorem zw31 {t:List Task} {y:Yard} (hf:fine t y = true) {A row:List Int} (hA:A.length ≤ 1000) (hr:row.length ≤ 1000) (hnt:t.length < 200) {us:List Bool} (hu:us.length = t.length) (hm:∀ x,InR t.length x → (sb us x = true ↔ x ∈ A)) (hnd:(A ++ row).Nodup) (hrng:∀ x ∈ row,InR t.length x)
    (hfo:∀ j:Nat,j + 1 < row.length → follB t y (row.getD j 0) (row.getD (j + 1) 0) = true) :
    Tot (fun r:(Int × List Bool) ⊕ (Bool × List Bool) => ∃ us',r = .inl ((A.length:Int) + row.length,us') ∧ us'.length = t.length ∧ ∀ x,InR t.length x → (sb us' x = true ↔ x ∈ A ++ row)) (iter (σ := (Int × Int × (List Bool))) (τ := (Int × (List Bool)) ⊕ (Bool × (List Bool))) (fun s366 =>
cond ((decide (s366.2.1 < (lenI row)))) (Option.bind (idx row s366.2.1) fun x369 =>
Option.bind (zh1 x369 0 ((w64 ((lenI t) - 1)))) fun y377 =>
cond ((!y377)) (some (.inr ((.inr ((false,s366.2.2)))))) (Option.bind (idx s366.2.2 x369) fun x380 =>
cond (x380) (some (.inr ((.inr ((false,s366.2.2)))))) (cond ((decide (s366.2.1 > 0))) (Option.bind (idx row ((w64 (s366.2.1 - 1)))) fun x384 =>
Option.bind (zp (t,y,()) x384 x369) fun y385 =>
cond ((!y385)) (some (.inr ((.inr ((false,s366.2.2)))))) (Option.bind (idx s366.2.2 x369) fun _ =>
some (.inl (((w64 (s366.1 + 1)),(w64 (s366.2.1 + 1)),(s366.2.2).set (Int.toNat x369) true))))) (Option.bind (idx s366.2.2 x369) fun _ =>
some (.inl (((w64 (s366.1 + 1)),(w64 (s366.2.1 + 1)),(s366.2.2).set (Int.toNat x369) true))))))) (some (.inr ((.inl ((s366.1,s366.2.2))))))) big ((A.length:Int),0,us)) := by
  refine Tot.iter (MarkI t.length A row) _ (fun s => row.length - s.2.1.toNat) ?_ (by simp only [big]; omega) ?_
  · exact ⟨Int.le_refl _,by simp only []; omega,hu,fun x hx => by simpa using hm x hx,by simp only []; omega⟩
  rintro ⟨c,j,us⟩ h
  have h1 := h.lo
  have h2 := h.hi
  have h3 := h.us
  have h4 := h.c
  have h5 := h.u
  simp only [] at h1 h2 h3 h4 h5
  have hw:w64 (lenI t - 1) = (t.length:Int) - 1 := by rw [zh]; exact zn (by omega) (by omega)
  simp only [within_eq,Option.bind_some,hw]
  by_cases hj:j < row.length
  · have hjn:j.toNat < row.length := by omega
    have hx := zj (d := (0:Int)) h1 hj
    have hin := hrng _ (zj1 (d := (0:Int)) hjn)
    have htk:row.take (j + 1).toNat = row.take j.toNat ++ [row.getD j.toNat 0] := by
      rw [show (j + 1).toNat = j.toNat + 1 by omega,List.take_add_one]
      simp [List.getD,hjn]
    have hnu:row.getD j.toNat 0 ∉ A ++ row.take j.toNat := by
      have hsub:(A ++ row.take (j + 1).toNat).Nodup := hnd.sublist (List.Sublist.append (List.Sublist.refl _) (List.take_sublist _ _))
      rw [htk,← List.append_assoc,List.nodup_append] at hsub
      exact fun hm => hsub.2.2 _ hm _ (List.mem_singleton.2 rfl) rfl
    obtain ⟨x,hxe⟩:∃ x,row.getD j.toNat 0 = x := ⟨_,rfl⟩
    rw [hxe] at hx hin htk hnu
    have hin' := hin
    unfold InR at hin'
    have e2:(decide (0 ≤ x) && decide (x ≤ (t.length:Int) - 1)) = true := by simp only [Bool.and_eq_true,decide_eq_true_eq]; omega
    have hux:us.getD x.toNat false = false := by
      cases hq:us.getD x.toNat false with
      | false => rfl
      | true => exact (hnu ((h5 x hin).1 hq)).elim
    have hw2:w64 (j + 1) = j + 1 := zn (by omega) (by omega)
    have hw4:w64 (c + 1) = c + 1 := zn (by omega) (by omega)
    have fin:StepT (MarkI t.length A row) (fun r:(Int × List Bool) ⊕ (Bool × List Bool) => ∃ us',r = .inl ((A.length:Int) + row.length,us') ∧ us'.length = t.length ∧ ∀ x,InR t.length x → (sb us' x = true ↔ x ∈ A ++ row)) (fun s => row.length - s.2.1.toNat) (c,j,us) (.inl (c + 1,j + 1,us.set x.toNat true)) := by
      refine ⟨⟨by simp only []; omega,by simp only []; omega,by simp only [List.length_set]; exact h3,fun z hz => ?_,by simp only []; omega⟩,by simp only []; omega⟩
      simp only []
      rw [zr8 h3 hin hz,htk,← List.append_assoc,List.mem_append,List.mem_singleton]
      split
      · rename_i e; simp [e]
      · rename_i e
        rw [h5 z hz]
        constructor
        · exact .inl
        · rintro (h | h)
          · exact h
          · exact (e h.symm).elim
    simp only [decide_eq_true (show j < lenI row from hj),cond_true,hx,Option.bind_some,e2,Bool.not_true,cond_false,zj (d := false) (l := us) hin'.1 (by omega),hux,hw2,hw4]
    by_cases hj0:j > 0
    · have hw3:w64 (j - 1) = j - 1 := zn (by omega) (by omega)
      have hz := zj (d := (0:Int)) (show 0 ≤ j - 1 by omega) (show j - 1 < row.length by omega)
      have hzin := hrng _ (zj1 (d := (0:Int)) (show (j - 1).toNat < row.length by omega))
      have hfl := hfo (j - 1).toNat (by omega)
      rw [show (j - 1).toNat + 1 = j.toNat by omega,hxe] at hfl
      simp only [decide_eq_true hj0,cond_true,hw3,hz,Option.bind_some,zc6 hf hzin hin,hfl,Bool.not_true,cond_false]
      exact Tot.some fin
    · simp only [decide_eq_false hj0,cond_false]
      exact Tot.some fin
  · simp only [decide_eq_false (show ¬ j < lenI row from hj),cond_false]
    have:j = row.length := by omega
    subst this
    refine Tot.some ⟨us,by rw [h4],h3,fun x hx => ?_⟩
    have := h5 x hx
    rw [this]
    simp
structure PlanG (t:List Task) (y:Yard) (p:List (List Int)):Prop where
 ne:∀ k:Nat,k < p.length → 0 < (p.getD k []).length
 up:∀ k:Nat,k + 1 < p.length → (p.getD k []).getD 0 0 < (p.getD (k + 1) []).getD 0 0
 fol:∀ k:Nat,k < p.length → ∀ j:Nat,j + 1 < (p.getD k []).length → follB t y ((p.getD k []).getD j 0) ((p.getD k []).getD (j + 1) 0) = true
 nd:p.flatten.Nodup
 rng:∀ x ∈ p.flatten,InR t.length x
 tot:p.flatten.length = t.length
theorem zk28 {p:List (List Int)} {i:Nat} (hi:i < p.length):(p.take (i + 1)).flatten = (p.take i).flatten ++ p.getD i [] := by
 rw [List.take_add_one,List.flatten_append]
 simp [List.getD,hi]
theorem zx31 {p:List (List Int)} (i:Nat):((p.take i).flatten).Sublist p.flatten := by
 conv => rhs; rw [← List.take_append_drop i p,List.flatten_append]
 exact List.sublist_append_left _ _
theorem zy31 {p:List (List Int)} (h:∀ k:Nat,k < p.length → 0 < (p.getD k []).length):p.length ≤ p.flatten.length := by
 induction p with
 | nil => simp
 | cons r p ih =>
  have h0 := h 0 (by simp)
  have := ih fun k hk => by simpa using h (k + 1) (by simpa using hk)
  simp only [List.length_cons,List.flatten_cons,List.length_append,List.getD_cons_zero] at h0 ⊢
  omega
structure PlanT (t:List Task) (p:List (List Int)) (s:Int × Int × List Bool):Prop where
 lo:0 ≤ s.2.1
 hi:s.2.1 ≤ p.length
 us:s.2.2.length = t.length
 u:∀ x,InR t.length x → (sb s.2.2 x = true ↔ x ∈ (p.take s.2.1.toNat).flatten)
 c:s.1 = ((p.take s.2.1.toNat).flatten.length:Nat)
theorem planned_true {t:List Task} {y:Yard} (hF:Few t y) (hf:fine t y = true) {p:List (List Int)} (h:PlanG t y p):zw (t,y,()) p = some true := by
 have ht := hF.t
 have hpl := zy31 h.ne
 have htot := h.tot
 apply Tot.eq
 unfold zw
 have hm:mkO 1 (lenI t) (false:Bool) = some (List.replicate t.length false) := by
  rw [zh,zq5 (by omega)]; simp
 simp only [hm,Option.bind_some]
 refine Tot.bind (Q := fun r:(Int × List Bool) ⊕ Bool => ∃ us,r = .inl ((t.length:Int),us)) (Tot.iter (PlanT t p) _ (fun s => p.length - s.2.1.toNat) ?_ (by first | (simp only [big]; omega) | omega) ?_) ?_
 ·exact ⟨Int.le_refl _,by simp only []; omega,by simp,fun x hx => by simp [sb,List.getD,List.getElem?_replicate]; split <;> simp,by simp⟩
 ·rintro ⟨c,i,us⟩ g
  have h1 := g.lo
  have h2 := g.hi
  have h3 := g.us
  have h4 := g.c
  have h5 := g.u
  simp only [] at h1 h2 h3 h4 h5
  by_cases hi:i < p.length
  ·have hin:i.toNat < p.length := by omega
   have hx := zj (d := ([]:List Int)) h1 hi
   have hw2:w64 (i + 1) = i + 1 := zn (by omega) (by omega)
   have hne := h.ne i.toNat hin
   have hft := zk28 hin
   have hsub := zx31 (p := p) (i.toNat + 1)
   have hle := hsub.length_le
   have hnd := h.nd.sublist hsub
   rw [hft] at hsub hle hnd
   rw [List.length_append] at hle
   have e2:(lenI (p.getD i.toNat []) == 0) = false := by rw [beq_eq_false_iff_ne]; simp only [zh]; omega
   obtain ⟨r,hr1,us',rfl,hu1,hu2⟩ := zw31 hf (A := (p.take i.toNat).flatten) (row := p.getD i.toNat []) (by omega) (by omega) (by omega) h3 h5 hnd (fun x hx => h.rng x (hsub.subset (List.mem_append.2 (.inr hx)))) (h.fol i.toNat hin)
   subst h4
   simp only [decide_eq_true (show i < lenI p from hi),cond_true,hx,Option.bind_some,e2,cond_false,hw2]
   have hti:(i + 1).toNat = i.toNat + 1 := by omega
   have fin:StepT (PlanT t p) (fun r:(Int × List Bool) ⊕ Bool => ∃ us,r = .inl ((t.length:Int),us)) (fun s => p.length - s.2.1.toNat) (((p.take i.toNat).flatten.length:Int),i,us) (.inl (((p.take i.toNat).flatten.length:Int) + ((p.getD i.toNat []).length:Int),i + 1,us')) := by
    refine ⟨⟨by simp only []; omega,by simp only []; omega,hu1,fun x hx => ?_, ?_⟩,by simp only []; omega⟩
    ·simp only []; rw [hti,hft]; exact hu2 x hx
    ·simp only []; rw [hti,hft,List.length_append]; omega
   by_cases hi0:i > 0
   ·have hw3:w64 (i - 1) = i - 1 := zn (by omega) (by omega)
    have hnz := h.ne (i - 1).toNat (by omega)
    have hup := h.up (i - 1).toNat (by omega)
    rw [show (i - 1).toNat + 1 = i.toNat by omega] at hup
    simp only [decide_eq_true hi0,cond_true,hw3,zj (d := ([]:List Int)) (show 0 ≤ i - 1 by omega) (show i - 1 < p.length by omega),zj (d := (0:Int)) (Int.le_refl 0) (show (0:Int) < (p.getD i.toNat []).length by omega),zj (d := (0:Int)) (Int.le_refl 0) (show (0:Int) < (p.getD (i - 1).toNat []).length by omega),Option.bind_some,decide_eq_false (show ¬ (p.getD i.toNat []).getD (Int.toNat 0) 0 ≤ (p.getD (i - 1).toNat []).getD (Int.toNat 0) 0 by rw [show Int.toNat 0 = 0 from rfl]; omega),cond_false,hr1,zg5]
    exact Tot.some fin
   ·simp only [decide_eq_false hi0,cond_false,hr1,Option.bind_some,zg5]
    exact Tot.some fin
  ·simp only [decide_eq_false (show ¬ i < lenI p from hi),cond_false]
   have:i = p.length := by omega
   subst this
   refine Tot.some ⟨us, ?_⟩
   rw [h4]
   simp [htot]
 ·rintro r ⟨us,rfl⟩
  simp only [zg5]
  exact Tot.some (by simp [zh])
end Go.Ai.Sx.Du

/- The duties: who is followed by whom,and the rows of cars,in the program. -/
namespace Go.Ai.Sx.Du
section
variable {n:Nat} {F:List Int}
structure Prv (n:Nat) (F mt:List Int) (i:Int):Prop where
 len:mt.length = n
 yes:∀ b,InR n b → 0 ≤ mb mt b → InR n (mb mt b) ∧ mb mt b < i ∧ fx F (mb mt b) = b
 no:∀ b,InR n b → mb mt b < 0 → ∀ z,InR n z → z < i → fx F z ≠ b
theorem zl28 (h:Fol n F) (hn:n < 1000) {mt0:List Int} (hl:mt0.length = n) (h0:∀ b,InR n b → mb mt0 b = -1):Tot (fun t => Prv n F t n) (iter (σ := (Int × (List Int))) (τ := ((List Int))) (fun s49 =>
cond ((decide (s49.1 < (lenI F)))) (Option.bind (idx F s49.1) fun x55 =>
cond ((decide (x55 < (n:Int)))) (Option.bind (idx s49.2 x55) fun _ =>
some (.inl (((w64 (s49.1 + 1)),(s49.2).set (Int.toNat x55) s49.1)))) (some (.inl (((w64 (s49.1 + 1)),s49.2))))) (some (.inr s49.2))) big ((0,mt0))) := by
 have hlen := h.len
 have hlF:lenI F = n := by rw [zh,hlen]
 refine Tot.iter (fun s:Int × List Int => 0 ≤ s.1 ∧ s.1 ≤ n ∧ Prv n F s.2 s.1) _ (fun s => n - s.1.toNat) ?_ (by simp only [big]; omega) ?_
 ·exact ⟨Int.le_refl _,by simp only []; omega,hl,fun b hb q => by simp only [] at q; rw [h0 b hb] at q; omega,fun b _ _ z hz q => by unfold InR at hz; simp only [] at q; omega⟩
 ·rintro ⟨i,m⟩ ⟨h1,h2,h3⟩
  simp only [] at h1 h2 h3
  simp only [hlF]
  by_cases hi:i < n
  ·have hiR:InR n i := ⟨h1,hi⟩
   have hw:w64 (i + 1) = i + 1 := zn (by omega) (by omega)
   have hx := zj (l := F) (d := (0:Int)) h1 (by omega)
   have hr := h.rng i hiR
   have hfx:F.getD i.toNat 0 = fx F i := rfl
   rw [hfx] at hx
   simp only [decide_eq_true hi,cond_true,hx,Option.bind_some,hw]
   have hml := h3.len
   by_cases hq:fx F i < n
   ·have hfR:InR n (fx F i) := ⟨by omega,hq⟩
    simp only [decide_eq_true hq,cond_true,zj (l := m) (d := (-1:Int)) hfR.1 (by omega),Option.bind_some]
    refine Tot.some ⟨⟨by simp only []; omega,by simp only []; omega,by simp only [List.length_set]; exact hml,fun b hb q => ?_,fun b hb q z hz hzi e => ?_⟩,by simp only []; omega⟩
    ·simp only [] at q ⊢
     rw [zk6 hml hfR hb] at q ⊢
     by_cases e:fx F i = b
     ·rw [if_pos e]; exact ⟨hiR,by omega,e⟩
     ·rw [if_neg e] at q ⊢
      obtain ⟨k1,k2,k3⟩ := h3.yes b hb q
      exact ⟨k1,by omega,k3⟩
    ·simp only [] at q hzi
     rw [zk6 hml hfR hb] at q
     by_cases e2:fx F i = b
     ·rw [if_pos e2] at q; omega
     ·rw [if_neg e2] at q
      by_cases e3:z = i
      ·subst e3; exact e2 e
      ·exact h3.no b hb q z hz (by omega) e
   ·simp only [decide_eq_false hq,cond_false]
    refine Tot.some ⟨⟨by simp only []; omega,by simp only []; omega,hml,fun b hb q => ?_,fun b hb q z hz hzi e => ?_⟩,by simp only []; omega⟩
    ·obtain ⟨k1,k2,k3⟩ := h3.yes b hb q
     exact ⟨k1,by simp only []; omega,k3⟩
    ·simp only [] at hzi
     by_cases e3:z = i
     ·subst e3
      unfold InR at hb
      omega
     ·exact h3.no b hb q z hz (by omega) e
  ·simp only [decide_eq_false hi,cond_false]
   have:i = n := by omega
   subst this
   exact Tot.some h3
structure RowC (n:Nat) (F:List Int) (s:Int) (acc:List Int):Prop where
 mem:∀ x,x ∈ acc ↔ Ch n F s x
 nd:acc.Nodup
 ne:0 < acc.length
 hd:acc.getD 0 0 = s
 fol:∀ j:Nat,j + 1 < acc.length → fx F (acc.getD j 0) = acc.getD (j + 1) 0
structure RowJ (n:Nat) (F:List Int) (s:Int) (q:List Int × Int):Prop where
 lo:s ≤ q.2
 hi:q.2 ≤ n
 mem:∀ x,x ∈ q.1 ↔ Ch n F s x ∧ x < q.2
 cur:q.2 < n → Ch n F s q.2
 nd:q.1.Nodup
 hd:0 < q.1.length → q.1.getD 0 0 = s
 em:q.1.length = 0 → q.2 = s
 fol:∀ j:Nat,j + 1 < q.1.length → fx F (q.1.getD j 0) = q.1.getD (j + 1) 0
 lst:0 < q.1.length → fx F (q.1.getD (q.1.length - 1) 0) = q.2
theorem zk14 {l:List Int} (hnd:l.Nodup) (h:∀ x ∈ l,InR n x):l.length ≤ n := by
 have := zf4 (zq2 (f := fun x:Int => x.toNat) hnd fun x hx y hy e => by
  have h1 := h x hx
  have h2 := h y hy
  unfold InR at h1 h2
  have e':x.toNat = y.toNat := e
  omega) (m := List.range n) fun x hx => by
   obtain ⟨y,hy,rfl⟩ := List.mem_map.1 hx
   have := h y hy
   unfold InR at this
   exact List.mem_range.2 (by omega)
 simpa using this
theorem zz31 (h:Fol n F) (hn:n < 1000) {s:Int} (hs:InR n s):Tot (fun acc => RowC n F s acc) (iter (σ := ((List Int) × Int)) (τ := ((List Int))) (fun s111 =>
cond ((decide (s111.2 < (n:Int)))) (Option.bind (appO 8 s111.1 ([s111.2])) fun x117 =>
Option.bind (idx F s111.2) fun x119 =>
some (.inl ((x117,x119)))) (some (.inr s111.1))) big (([],s))) := by
 have hlen := h.len
 have hs' := hs
 unfold InR at hs'
 refine Tot.iter (RowJ n F s) _ (fun s => n - s.2.toNat) ?_ (by simp only [big]; omega) ?_
 ·refine ⟨Int.le_refl _,by simp only []; omega,fun x => ?_,fun _ => .refl,List.nodup_nil,fun q => by simp at q,fun _ => rfl,fun j q => by simp at q,fun q => by simp at q⟩
  constructor
  ·intro q; cases q
  ·rintro ⟨q1,q2⟩
   have := (q1.inR h hs).2
   simp only [] at q2
   omega
 ·rintro ⟨acc,c⟩ g
  have h1 := g.lo
  have h2 := g.hi
  simp only [] at h1 h2
  by_cases hc:c < n
  ·have hcR:InR n c := ⟨by omega,hc⟩
   have hch:Ch n F s c := g.cur hc
   have hx := zj (l := F) (d := (0:Int)) hcR.1 (by omega)
   have hr := h.rng c hcR
   have hfx:F.getD c.toNat 0 = fx F c := rfl
   rw [hfx] at hx
   have hal:acc.length ≤ n := zk14 g.nd fun x hx => (((g.mem x).1 hx).1.inR h hs).1
   have hap:appO 8 acc [c] = some (acc ++ [c]) := zp2 (by simp only [List.length_singleton]; omega)
   simp only [decide_eq_true hc,cond_true,hap,hx,Option.bind_some]
   have hlen1:(acc ++ [c]).length = acc.length + 1 := by simp
   have g0:∀ i:Nat,i < acc.length → (acc ++ [c]).getD i 0 = acc.getD i 0 := fun i hi => by simp only [List.getD_eq_getElem?_getD,List.getElem?_append_left hi]
   have g1:(acc ++ [c]).getD acc.length 0 = c := by simp [List.getD]
   refine Tot.some ⟨⟨by simp only []; omega,by simp only []; omega,fun x => ?_,fun q => hch.step hcR rfl q, ?_,fun _ => ?_,fun q => by simp at q,fun j hj => ?_,fun _ => ?_⟩,by simp only []; omega⟩
   ·simp only []
    rw [List.mem_append,List.mem_singleton,g.mem x]
    constructor
    ·rintro (⟨q1,q2⟩ | rfl)
     ·exact ⟨q1,by simp only [] at q2; omega⟩
     ·exact ⟨hch,by omega⟩
    ·rintro ⟨q1,q2⟩
     by_cases e:x < c
     ·exact .inl ⟨q1,e⟩
     ·by_cases e2:x = c
      ·exact .inr e2
      ·have := Ch.next h hs (x.toNat + 1) x c (by omega) q1 hch (by omega)
       omega
   ·simp only []
    rw [List.nodup_append]
    refine ⟨g.nd,by simp,fun x hx y hy e => ?_⟩
    rw [List.mem_singleton.1 hy] at e
    have := ((g.mem x).1 hx).2
    simp only [] at this
    omega
   ·simp only []
    by_cases e:acc.length = 0
    ·have := List.eq_nil_of_length_eq_zero e
     subst this
     have := g.em rfl
     simp only [] at this
     simp [this]
    ·rw [g0 0 (by omega)]; exact g.hd (by simp only []; omega)
   ·simp only [] at hj ⊢
    rw [hlen1] at hj
    by_cases e:j + 1 < acc.length
    ·rw [g0 j (by omega),g0 (j + 1) e]; exact g.fol j e
    ·have e2:j + 1 = acc.length := by omega
     rw [g0 j (by omega),e2,g1]
     have := g.lst (by simp only []; omega)
     simp only [] at this
     rw [show acc.length - 1 = j by omega] at this
     exact this
   ·simp only []
    rw [hlen1,show acc.length + 1 - 1 = acc.length by omega,g1]
  ·simp only [decide_eq_false hc,cond_false]
   have e:c = n := by omega
   subst e
   refine Tot.some ⟨fun x => ?_,g.nd, ?_, ?_,g.fol⟩
   ·rw [g.mem x]
    constructor
    ·exact fun q => q.1
    ·exact fun q => ⟨q,((q.inR h hs).1).2⟩
   ·have := g.em
    simp only [] at this
    rcases Nat.eq_zero_or_pos acc.length with e | e
    ·have := this e; omega
    ·exact e
   ·refine g.hd ?_
    have := g.em
    simp only [] at this ⊢
    rcases Nat.eq_zero_or_pos acc.length with e | e
    ·have := this e; omega
    ·exact e
end
end Go.Ai.Sx.Du

/- The duties: the plan of cars that the program lays. -/
namespace Go.Ai.Sx.Du
section
variable {n:Nat} {F:List Int}
structure CarsI (n:Nat) (F:List Int) (p:List (List Int)) (a:Int):Prop where
 row:∀ k:Nat,k < p.length → ∃ s,InR n s ∧ s < a ∧ (∀ z,InR n z → fx F z ≠ s) ∧ RowC n F s (p.getD k [])
 up:∀ k:Nat,k + 1 < p.length → (p.getD k []).getD 0 0 < (p.getD (k + 1) []).getD 0 0
 mem:∀ s,InR n s → s < a → (∀ z,InR n z → fx F z ≠ s) → ∃ k:Nat,k < p.length ∧ RowC n F s (p.getD k [])
 cnt:(p.length:Int) ≤ a
theorem zr6 {A:Type} {l m:List A} {d:A} {i:Nat} (h:i < l.length):(l ++ m).getD i d = l.getD i d := by
 simp only [List.getD_eq_getElem?_getD,List.getElem?_append_left h]
theorem zf9 {A:Type} {l:List A} {x d:A}:(l ++ [x]).getD l.length d = x := by simp [List.getD]
theorem CarsI.skip {p:List (List Int)} {a z:Int} (h:CarsI n F p a) (hz:InR n z) (e:fx F z = a):CarsI n F p (a + 1) := by
 refine ⟨fun k hk => ?_,h.up,fun s hs hsa hno => ?_,by have := h.cnt; omega⟩
 ·obtain ⟨s,h1,h2,h3,h4⟩ := h.row k hk
  exact ⟨s,h1,by omega,h3,h4⟩
 ·by_cases q:s = a
  ·subst q; exact (hno z hz e).elim
  ·exact h.mem s hs (by omega) hno
theorem CarsI.push {p:List (List Int)} {a:Int} {r:List Int} (h:CarsI n F p a) (ha:InR n a) (hno:∀ z,InR n z → fx F z ≠ a) (hr:RowC n F a r):CarsI n F (p ++ [r]) (a + 1) := by
 have hl:(p ++ [r]).length = p.length + 1 := by simp
 refine ⟨fun k hk => ?_,fun k hk => ?_,fun s hs hsa hn' => ?_,by have := h.cnt; omega⟩
 ·by_cases q:k < p.length
  ·obtain ⟨s,h1,h2,h3,h4⟩ := h.row k q
   exact ⟨s,h1,by omega,h3,by rw [zr6 q]; exact h4⟩
  ·have:k = p.length := by omega
   subst this
   exact ⟨a,ha,by omega,hno,by rw [zf9]; exact hr⟩
 ·by_cases q:k + 1 < p.length
  ·rw [zr6 q,zr6 (by omega)]; exact h.up k q
  ·have:k + 1 = p.length := by omega
   rw [this,zf9,zr6 (by omega),hr.hd]
   obtain ⟨s,h1,h2,h3,h4⟩ := h.row k (by omega)
   rw [h4.hd]; exact h2
 ·by_cases q:s = a
  ·subst q; exact ⟨p.length,by omega,by rw [zf9]; exact hr⟩
  ·obtain ⟨k,h1,h2⟩ := h.mem s hs (by omega) hn'
   exact ⟨k,by omega,by rw [zr6 h1]; exact h2⟩
theorem zm28 (h:Fol n F) (hn:n < 1000) {mt:List Int} (hp:Prv n F mt n):Tot (fun p => CarsI n F p n) (iter (σ := ((List (List Int)) × Int)) (τ := ((List (List Int)))) (fun s95 =>
cond ((decide (s95.2 < (n:Int)))) (Option.bind (idx mt s95.2) fun x101 =>
cond ((decide (x101 ≥ 0))) (some (.inl ((s95.1,(w64 (s95.2 + 1)))))) (Option.bind (iter (σ := ((List Int) × Int)) (τ := ((List Int))) (fun s111 =>
cond ((decide (s111.2 < (n:Int)))) (Option.bind (appO 8 s111.1 ([s111.2])) fun x117 =>
Option.bind (idx F s111.2) fun x119 =>
some (.inl ((x117,x119)))) (some (.inr s111.1))) big (([],s95.2))) fun t122 =>
Option.bind (appO 24 s95.1 ([t122])) fun x126 =>
some (.inl ((x126,(w64 (s95.2 + 1))))))) (some (.inr s95.1))) big (([],0))) := by
 refine Tot.iter (fun s:List (List Int) × Int => 0 ≤ s.2 ∧ s.2 ≤ n ∧ CarsI n F s.1 s.2) _ (fun s => n - s.2.toNat) ?_ (by simp only [big]; omega) ?_
 ·exact ⟨Int.le_refl _,by simp only []; omega,fun k hk => by simp at hk,fun k hk => by simp at hk,fun s hs q => by unfold InR at hs; simp only [] at q; omega,by simp⟩
 ·rintro ⟨p,a⟩ ⟨h1,h2,h3⟩
  simp only [] at h1 h2 h3
  simp only []
  by_cases ha:a < n
  ·have haR:InR n a := ⟨h1,ha⟩
   have hw:w64 (a + 1) = a + 1 := zn (by omega) (by omega)
   have hml := hp.len
   have hx:idx mt a = some (mb mt a) := zj (l := mt) (d := (-1:Int)) h1 (by omega)
   simp only [decide_eq_true ha,cond_true,hx,Option.bind_some,hw]
   by_cases hq:mb mt a ≥ 0
   ·simp only [decide_eq_true hq,cond_true]
    obtain ⟨k1,_,k3⟩ := hp.yes a haR hq
    exact Tot.some ⟨⟨by simp only []; omega,by simp only []; omega,h3.skip k1 k3⟩,by simp only []; omega⟩
   ·simp only [decide_eq_false hq,cond_false]
    refine (zz31 h hn haR).bind fun r hr => ?_
    have hc := h3.cnt
    have hap:appO 24 p [r] = some (p ++ [r]) := zp2 (by simp only [List.length_singleton]; omega)
    simp only [hap,Option.bind_some]
    exact Tot.some ⟨⟨by simp only []; omega,by simp only []; omega,h3.push haR (fun z hz => hp.no a haR (by omega) z hz (by unfold InR at hz; omega)) hr⟩,by simp only []; omega⟩
  ·simp only [decide_eq_false ha,cond_false]
   have:a = n := by omega
   subst this
   exact Tot.some h3
theorem zk24 {p:List (List Int)} (h1:∀ k:Nat,k < p.length → (p.getD k []).Nodup) (h2:∀ i j:Nat,i < p.length → j < p.length → ∀ x,x ∈ p.getD i [] → x ∈ p.getD j [] → i = j):p.flatten.Nodup := by
 induction p with
 | nil => exact List.nodup_nil
 | cons r p ih =>
  rw [List.flatten_cons,List.nodup_append]
  refine ⟨h1 0 (by simp),ih (fun k hk => h1 (k + 1) (by simpa using hk)) (fun i j hi hj x hx hy => by
   have := h2 (i + 1) (j + 1) (by simpa using hi) (by simpa using hj) x hx hy
   omega),fun a ha b hb e => ?_⟩
  subst e
  obtain ⟨q,hq,hx⟩ := List.mem_flatten.1 hb
  obtain ⟨k,hk,rfl⟩ := List.getElem_of_mem hq
  have := h2 0 (k + 1) (by simp) (by simpa using hk) a ha (by simpa [List.getD,hk] using hx)
  omega
theorem zy22 {p:List (List Int)} {x:Int}:x ∈ p.flatten ↔ ∃ k:Nat,k < p.length ∧ x ∈ p.getD k [] := by
 rw [List.mem_flatten]
 constructor
 ·rintro ⟨q,hq,hx⟩
  obtain ⟨k,hk,rfl⟩ := List.getElem_of_mem hq
  exact ⟨k,hk,by simpa [List.getD,hk] using hx⟩
 ·rintro ⟨k,hk,hx⟩
  exact ⟨p.getD k [],by simp [List.getD,hk],hx⟩
theorem zq10 {p:List (List Int)} (h:∀ k:Nat,k + 1 < p.length → (p.getD k []).getD 0 0 < (p.getD (k + 1) []).getD 0 0):∀ d i:Nat,i + d + 1 < p.length → (p.getD i []).getD 0 0 < (p.getD (i + d + 1) []).getD 0 0
 | 0,i,hi => h i hi
 | d + 1,i,hi => Int.lt_trans (zq10 h d i (by omega)) (h (i + d + 1) (by omega))
theorem CarsI.planG {t:List Task} {y:Yard} {p:List (List Int)} (hn:t.length = n) (h:Fol n F) (hp:PrefOk n (follB t y) F) (hc:CarsI n F p n):PlanG t y p := by
 have hap:∀ i j:Nat,i < p.length → j < p.length → ∀ x,x ∈ p.getD i [] → x ∈ p.getD j [] → i = j := by
  intro i j hi hj x hx hy
  obtain ⟨s,a1,_,a3,a4⟩ := hc.row i hi
  obtain ⟨s',b1,_,b3,b4⟩ := hc.row j hj
  have := Ch.apart h a1 b1 a3 b3 ((a4.mem x).1 hx) ((b4.mem x).1 hy)
  subst this
  rcases Nat.lt_trichotomy i j with q | q | q
  ·have := zq10 hc.up (j - i - 1) i (by omega)
   rw [show i + (j - i - 1) + 1 = j by omega,a4.hd,b4.hd] at this
   omega
  ·exact q
  ·have := zq10 hc.up (i - j - 1) j (by omega)
   rw [show j + (i - j - 1) + 1 = i by omega,a4.hd,b4.hd] at this
   omega
 have hnd:p.flatten.Nodup := zk24 (fun k hk => by obtain ⟨s,_,_,_,a4⟩ := hc.row k hk; exact a4.nd) hap
 have hrng:∀ x ∈ p.flatten,InR t.length x := by
  intro x hx
  rw [hn]
  obtain ⟨k,hk,hx⟩ := zy22.1 hx
  obtain ⟨s,a1,_,_,a4⟩ := hc.row k hk
  exact (((a4.mem x).1 hx).inR h a1).1
 refine ⟨fun k hk => by obtain ⟨s,_,_,_,a4⟩ := hc.row k hk; exact a4.ne,hc.up,fun k hk j hj => ?_,hnd,hrng, ?_⟩
 ·obtain ⟨s,a1,_,_,a4⟩ := hc.row k hk
  have e := a4.fol j hj
  have hx:(p.getD k []).getD j 0 ∈ p.getD k [] := zj1 (by omega)
  have hy:(p.getD k []).getD (j + 1) 0 ∈ p.getD k [] := zj1 hj
  have hxR := (((a4.mem _).1 hx).inR h a1).1
  have hyR := (((a4.mem _).1 hy).inR h a1).1
  unfold InR at hxR hyR
  have hlen := h.len
  unfold fx at e
  have := hp.edge ((p.getD k []).getD j 0).toNat (by omega) (by omega)
  rw [e,Int.toNat_of_nonneg hxR.1] at this
  exact this
 ·apply Nat.le_antisymm
  ·rw [hn]
   rw [hn] at hrng
   exact zk14 hnd hrng
  ·have := zf4 (l := (List.range n).map fun i:Nat => (i:Int)) (m := p.flatten) (zq2 List.nodup_range fun a _ b _ e => by omega) fun x hx => by
    obtain ⟨i,hi,rfl⟩ := List.mem_map.1 hx
    have hi := List.mem_range.1 hi
    obtain ⟨s,a1,a2,a3,a4⟩ := Ch.some h (i + 1) (i:Int) ⟨by omega,by omega⟩ (by omega)
    obtain ⟨k,hk,hr⟩ := hc.mem s a1 (by unfold InR at a1; omega) a3
    exact zy22.2 ⟨k,hk,(hr.mem _).2 a4⟩
   rw [List.length_map,List.length_range] at this
   omega
theorem CarsI.len {p:List (List Int)} {mt:List Int} (h:Fol n F) (hp:Prv n F mt n) (hc:CarsI n F p n):p.length + (pr mt).length ≤ n := by
 have h1:((List.range p.length).map fun k => ((p.getD k []).getD 0 0)).Nodup := zq2 List.nodup_range fun i hi j hj e => by
  have hi := List.mem_range.1 hi
  have hj := List.mem_range.1 hj
  rcases Nat.lt_trichotomy i j with q | q | q
  ·have := zq10 hc.up (j - i - 1) i (by omega)
   rw [show i + (j - i - 1) + 1 = j by omega] at this
   omega
  ·exact q
  ·have := zq10 hc.up (i - j - 1) j (by omega)
   rw [show j + (i - j - 1) + 1 = i by omega] at this
   omega
 have h2:((pr mt).map (·.2)).Nodup := by
  unfold pr
  rw [List.map_map]
  exact zq2 (List.nodup_range.filter _) fun a _ b _ e => by
   have e':(a:Int) = b := e
   omega
 have h3:(((List.range p.length).map fun k => ((p.getD k []).getD 0 0)) ++ (pr mt).map (·.2)).Nodup := by
  refine List.nodup_append.2 ⟨h1,h2,fun a ha b hb e => ?_⟩
  subst e
  obtain ⟨k,hk,rfl⟩ := List.mem_map.1 ha
  obtain ⟨q,hq,e⟩ := List.mem_map.1 hb
  obtain ⟨s,a1,_,a3,a4⟩ := hc.row k (List.mem_range.1 hk)
  rw [a4.hd] at e
  obtain ⟨b1,b2,b3⟩ := zs8.1 hq
  rw [hp.len] at b1
  obtain ⟨c1,_,c3⟩ := hp.yes q.2 b1 b2
  exact a3 _ c1 (by rw [c3,e])
 have := zk14 (n := n) h3 fun x hx => by
  rcases List.mem_append.1 hx with hx | hx
  ·obtain ⟨k,hk,rfl⟩ := List.mem_map.1 hx
   obtain ⟨s,a1,_,_,a4⟩ := hc.row k (List.mem_range.1 hk)
   rw [a4.hd]; exact a1
  ·obtain ⟨q,hq,rfl⟩ := List.mem_map.1 hx
   have := (zs8.1 hq).1
   rw [hp.len] at this
   exact this
 simpa using this
theorem zz22 {g:Int → Int → Bool} {mt:List Int} (h:Fol n F) (hp:PrefOk n g F) (hv:Prv n F mt n):IsM (Edg n g) (pr mt) ∧ (pr mt).length = cntR n F := by
 have hlen := h.len
 have hm:∀ q ∈ pr mt,InR n q.1 ∧ InR n q.2 ∧ fx F q.1 = q.2 := fun q hq => by
  obtain ⟨b1,b2,b3⟩ := zs8.1 hq
  rw [hv.len] at b1
  obtain ⟨c1,_,c3⟩ := hv.yes q.2 b1 b2
  rw [b3]
  exact ⟨c1,b1,c3⟩
 have hs:((pr mt).map (·.2)).Nodup := by
  unfold pr
  rw [List.map_map]
  exact zq2 (List.nodup_range.filter _) fun a _ b _ e => by
   have e':(a:Int) = b := e
   omega
 have hM:IsM (Edg n g) (pr mt) := by
  refine ⟨fun q hq => ?_, ?_,hs⟩
  ·obtain ⟨c1,c2,c3⟩ := hm q hq
   refine ⟨c1,c2, ?_⟩
   unfold InR at c1 c2
   unfold fx at c3
   have := hp.edge q.1.toNat (by omega) (by omega)
   rw [c3,Int.toNat_of_nonneg c1.1] at this
   exact this
  ·have hnd:(pr mt).Nodup := by
    unfold pr
    exact zq2 (List.nodup_range.filter _) fun a _ b _ e => by
     have e' := congrArg Prod.snd e
     simp only [] at e'
     omega
   exact zq2 hnd fun q hq q' hq' e => by
    have h1 := hm q hq
    have h2 := hm q' hq'
    have:q.2 = q'.2 := by rw [← h1.2.2,← h2.2.2,e]
    exact Prod.ext e this
 refine ⟨hM, ?_⟩
 rw [← zu32]
 have hpf := hp.isM
 apply Nat.le_antisymm
 ·rw [zp10 (·.1) (pr mt),zp10 (·.1) (pf n F)]
  refine zf4 hM.f fun x hx => ?_
  obtain ⟨q,hq,rfl⟩ := List.mem_map.1 hx
  obtain ⟨c1,c2,c3⟩ := hm q hq
  unfold InR at c1 c2
  unfold fx at c3
  exact List.mem_map.2 ⟨((q.1.toNat:Nat),F.getD q.1.toNat 0),zj20.2 ⟨q.1.toNat,by omega,by omega,rfl⟩,by simp only []; omega⟩
 ·rw [zp10 (·.2) (pr mt),zp10 (·.2) (pf n F)]
  refine zf4 hpf.s fun x hx => ?_
  obtain ⟨q,hq,rfl⟩ := List.mem_map.1 hx
  obtain ⟨i,h1,h2,rfl⟩ := zj20.1 hq
  have hr := h.rng (i:Int) ⟨by omega,by omega⟩
  have he:fx F (i:Int) = F.getD i 0 := rfl
  rw [he] at hr
  have hbR:InR n (F.getD i 0) := ⟨by omega,h2⟩
  have:0 ≤ mb mt (F.getD i 0) := by
   by_cases q:0 ≤ mb mt (F.getD i 0)
   ·exact q
   ·exact (hv.no _ hbR (by omega) (i:Int) ⟨by omega,by omega⟩ (by omega) he).elim
  exact List.mem_map.2 ⟨(mb mt (F.getD i 0),F.getD i 0),zs8.2 ⟨by rw [hv.len]; exact hbR,this,rfl⟩,rfl⟩
end
end Go.Ai.Sx.Du

/- The duties: what the program's plan of cars and its proof are. -/
namespace Go.Ai.Sx.Du
section
variable {n:Nat} {F:List Int}
theorem zm38 {g:Int → Int → Bool} (hl:F.length = n) (hp:PrefOk n g F) (hlt:∀ a b,g a b = true → a < b):Fol n F := by
 have h0:∀ x,InR n x → (x.toNat:Int) = x ∧ x.toNat < F.length := fun x hx => by unfold InR at hx; omega
 refine ⟨hl,fun x hx => ?_,fun x y hx hy h1 h2 => ?_⟩
 ·obtain ⟨e,hi⟩ := h0 x hx
  have h3 := hp.rng _ (zj1 (d := (0:Int)) hi)
  unfold fx
  refine ⟨?_,h3.2⟩
  by_cases q:F.getD x.toNat 0 < n
  ·have := hlt _ _ (hp.edge _ hi q)
   omega
  ·unfold InR at hx; omega
 ·obtain ⟨e,hi⟩ := h0 x hx
  obtain ⟨e',hj⟩ := h0 y hy
  have := hp.inj _ _ hi hj h1 h2
  omega
structure MarkP (n:Nat) (g:Int → Int → Bool) (F mt:List Int) (L R:List Bool) (i:Int):Prop where
 ll:L.length = n
 lr:R.length = n
 don:∀ x,InR n x → x < i → fx F x = n → sb L x = true
 cl:∀ x,InR n x → sb L x = true → ∀ b,InR n b → g x b = true → sb R b = true
 cr:∀ b,InR n b → sb R b = true → 0 ≤ mb mt b ∧ sb L (mb mt b) = true
theorem zn28 (n:Nat) (x:Int):sb (List.replicate n false) x = false := by
 unfold sb
 simp only [List.getD_eq_getElem?_getD,List.getElem?_replicate]
 split <;> rfl
theorem zp35 (l:List Bool):cntF l ≤ l.length := List.countP_le_length
theorem zo28 {g:Int → Int → Bool} {w:za1} {mt:List Int} (hfol:∀ a b,InR n a → InR n b → zp w a b = some (g a b)) (h:Fol n F) (hp:PrefOk n g F) (hv:Prv n F mt n) (hn:n < 1000) {l0:List (Int × Int)} (hmost:Most (Edg n g) (fun x => 0 ≤ x ∧ x < n) l0) (hM:l0.length = cntR n F) :
    Tot (fun o:List Bool × List Bool => MarkP n g F mt o.2 o.1 n) (iter (σ := (Int × (List Bool) × (List Bool))) (τ := ((List Bool) × (List Bool))) (fun s162 =>
cond ((decide (s162.1 < (n:Int)))) (Option.bind (idx F s162.1) fun x171 =>
cond ((x171 == (n:Int))) (Option.bind (zu4 big s162.1 s162.2.2 ((n:Int)) w s162.2.1 mt) fun y173 =>
some (.inl (((w64 (s162.1 + 1)),y173.2,y173.1)))) (some (.inl (((w64 (s162.1 + 1)),s162.2.1,s162.2.2))))) (some (.inr (((s162.2.1,s162.2.2)))))) big ((0,List.replicate n false,List.replicate n false))) := by
  obtain ⟨hpm,hpl⟩ := zz22 h hp hv
  have hml := hv.len
  refine Tot.iter (fun s:Int × List Bool × List Bool => 0 ≤ s.1 ∧ s.1 ≤ n ∧ MarkP n g F mt s.2.2 s.2.1 s.1) _ (fun s => n - s.1.toNat) ?_ (by simp only [big]; omega) ?_
  · refine ⟨Int.le_refl _,by simp only []; omega,by simp,by simp,fun x hx q => ?_,fun x _ q => ?_,fun x _ q => ?_⟩
    · unfold InR at hx; simp only [] at q; omega
    · simp only [zn28] at q; cases q
    · simp only [zn28] at q; cases q
  · rintro ⟨i,R,L⟩ ⟨h1,h2,h3⟩
    simp only [] at h1 h2 h3
    simp only []
    by_cases hi:i < n
    · have hiR:InR n i := ⟨h1,hi⟩
      have hw:w64 (i + 1) = i + 1 := zn (by omega) (by omega)
      have hlF := h.len
      have hx:idx F i = some (fx F i) := zj (l := F) (d := (0:Int)) h1 (by omega)
      simp only [decide_eq_true hi,cond_true,hx,Option.bind_some,hw]
      by_cases hq:fx F i = n
      · have hb:(fx F i == (n:Int)) = true := by rw [hq]; exact beq_self_eq_true _
        simp only [hb,cond_true]
        have hfree:Free n g mt (cntR n F) i R (pr mt) := by
          refine ⟨hpm,hpl,fun q hq' e => ?_,fun b hb _ x => ?_⟩
          · obtain ⟨b1,b2,b3⟩ := zs8.1 hq'
            rw [hml] at b1
            obtain ⟨c1,_,c3⟩ := hv.yes q.2 b1 b2
            rw [← b3,e,hq] at c3
            unfold InR at b1
            omega
          · rw [zs8]
            simp only [hml]
            constructor
            · rintro ⟨_,b2,b3⟩; exact ⟨b3.symm,by rw [b3]; exact b2⟩
            · rintro ⟨b1,b2⟩; exact ⟨hb,by rw [b1]; exact b2,b1.symm⟩
        have hbig:cntF R < big := by have := zp35 R; rw [h3.lr] at this; simp only [big]; omega
        refine (zu31 hfol hn hml (fun b hb => ?_) hmost hM big i L R hiR h3.ll h3.lr ⟨_,hfree⟩ hbig).bind fun o ho => ?_
        · by_cases q:0 ≤ mb mt b
          · have := (hv.yes b hb q).1; exact this.2
          · unfold InR at hb; omega
        obtain ⟨ho,_⟩ := ho
        refine Tot.some ⟨⟨by simp only []; omega,by simp only []; omega,ho.ll,ho.lr,fun x hx q e => ?_,fun x hx q b hb hg => ?_,fun b hb q => ?_⟩,by simp only []; omega⟩
        · simp only [] at q
          by_cases e2:x = i
          · subst e2; exact ho.a
          · exact ho.ml x hx (h3.don x hx (by omega) e)
        · cases hs:sb L x with
          | true => exact ho.mr b hb (h3.cl x hx hs b hb hg)
          | false => exact ho.cl x hx q hs b hb hg
        · cases hs:sb R b with
          | true =>
            obtain ⟨k1,k2⟩ := h3.cr b hb hs
            exact ⟨k1,ho.ml _ (hv.yes b hb k1).1 k2⟩
          | false => exact ho.cr b hb q hs
      · have hb:(fx F i == (n:Int)) = false := by rw [beq_eq_false_iff_ne]; exact hq
        simp only [hb,cond_false]
        refine Tot.some ⟨⟨by simp only []; omega,by simp only []; omega,h3.ll,h3.lr,fun x hx q e => ?_,h3.cl,h3.cr⟩,by simp only []; omega⟩
        simp only [] at q
        by_cases e2:x = i
        · subst e2; exact (hq e).elim
        · exact h3.don x hx (by omega) e
    · simp only [decide_eq_false hi,cond_false]
      have:i = n := by omega
      subst this
      exact Tot.some h3
def sel (p:Nat → Bool) (i:Nat):List Int := ((List.range i).filter p).map fun k:Nat => (k:Int)
theorem zh18 (p:Nat → Bool) (i:Nat):sel p (i + 1) = if p i then sel p i ++ [(i:Int)] else sel p i := by
 unfold sel
 rw [List.range_succ,List.filter_append,List.map_append]
 cases h:p i <;> simp [h]
theorem zl14 (p:Nat → Bool) (i:Nat):(sel p i).length ≤ i := by
 unfold sel
 rw [List.length_map]
 have := List.length_filter_le p (List.range i)
 rw [List.length_range] at this
 exact this
theorem zp21 {p:Nat → Bool} {i:Nat} {x:Int}:x ∈ sel p i ↔ InR i x ∧ p x.toNat = true := by
 unfold sel InR
 rw [List.mem_map]
 constructor
 ·rintro ⟨k,hk,rfl⟩
  have h1 := List.mem_filter.1 hk
  have h2 := List.mem_range.1 h1.1
  exact ⟨by omega,h1.2⟩
 ·rintro ⟨h1,h2⟩
  exact ⟨x.toNat,List.mem_filter.2 ⟨List.mem_range.2 (by omega),h2⟩,by omega⟩
theorem za23 {l:List Int} {x:Int}:hasB l x = true ↔ x ∈ l := by
 unfold hasB
 rw [List.any_eq_true]
 constructor
 ·rintro ⟨y,h1,h2⟩; rw [← eq_of_beq h2]; exact h1
 ·exact fun h => ⟨x,h,beq_self_eq_true x⟩
theorem zq35 (p:Nat → Bool) (n:Nat):risB (sel p n) n = true := by
 have hs:∀ i,(sel p i).Pairwise (· < ·) := fun i => by
  unfold sel
  rw [List.pairwise_map]
  exact (List.pairwise_lt_range.filter p).imp (fun h => by omega)
 unfold risB
 rw [List.all_eq_true]
 intro i hi
 have hi := List.mem_range.1 hi
 have h1 := zp21.1 (zj1 (d := (0:Int)) hi)
 unfold InR at h1
 rw [decide_eq_true h1.1.1,decide_eq_true (show (sel p n).getD i 0 ≤ (n:Int) - 1 by omega)]
 by_cases h0:i = 0
 ·rw [decide_eq_true h0]; rfl
 ·have := List.pairwise_iff_getElem.1 (hs n) (i - 1) i (by omega) hi (by omega)
  have e1:(sel p n).getD (i - 1) 0 = (sel p n)[i - 1] := by simp [List.getD,show i - 1 < (sel p n).length by omega]
  have e2:(sel p n).getD i 0 = (sel p n)[i] := by simp [List.getD,hi]
  rw [e1,e2,decide_eq_true this,decide_eq_false h0]; rfl
theorem zq21 {L R:List Bool} (hL:L.length = n) (hR:R.length = n) (hn:n < 1000) :
    iter (σ := (Int × (List Int) × (List Int))) (τ := ((List Int) × (List Int))) (fun s220 =>
cond ((decide (s220.1 < (n:Int)))) (Option.bind (idx L s220.1) fun x229 =>
cond ((!x229)) (Option.bind (appO 8 s220.2.2 ([s220.1])) fun x231 =>
Option.bind (idx R s220.1) fun x233 =>
cond (x233) (Option.bind (appO 8 s220.2.1 ([s220.1])) fun x235 =>
some (.inl (((w64 (s220.1 + 1)),x235,x231)))) (some (.inl (((w64 (s220.1 + 1)),s220.2.1,x231))))) (Option.bind (idx R s220.1) fun x241 =>
cond (x241) (Option.bind (appO 8 s220.2.1 ([s220.1])) fun x243 =>
some (.inl (((w64 (s220.1 + 1)),x243,s220.2.2)))) (some (.inl (((w64 (s220.1 + 1)),s220.2.1,s220.2.2)))))) (some (.inr (((s220.2.2,s220.2.1)))))) big ((0,[],[])) = some (sel (fun x => !L.getD x false) n,sel (fun x => R.getD x false) n) := by
  apply Tot.eq
  refine Tot.iter (fun s:Int × List Int × List Int => 0 ≤ s.1 ∧ s.1 ≤ n ∧ s.2.1 = sel (fun x => R.getD x false) s.1.toNat ∧ s.2.2 = sel (fun x => !L.getD x false) s.1.toNat) _ (fun s => n - s.1.toNat) ?_ (by simp only [big]; omega) ?_
  · exact ⟨Int.le_refl _,by simp only []; omega,rfl,rfl⟩
  · rintro ⟨i,S,G⟩ ⟨h1,h2,h3,h4⟩
    simp only [] at h1 h2 h3 h4
    simp only []
    by_cases hi:i < n
    · have hw:w64 (i + 1) = i + 1 := zn (by omega) (by omega)
      have e:(i + 1).toNat = i.toNat + 1 := by omega
      have e':(i.toNat:Int) = i := by omega
      have l1 := zl14 (fun x => R.getD x false) i.toNat
      have l2 := zl14 (fun x => !L.getD x false) i.toNat
      rw [← h3] at l1
      rw [← h4] at l2
      have a1:appO 8 S [i] = some (S ++ [i]) := zp2 (by simp only [List.length_singleton]; omega)
      have a2:appO 8 G [i] = some (G ++ [i]) := zp2 (by simp only [List.length_singleton]; omega)
      have s1 := zh18 (fun x => R.getD x false) i.toNat
      have s2 := zh18 (fun x => !L.getD x false) i.toNat
      rw [← h3,e'] at s1
      rw [← h4,e'] at s2
      simp only [decide_eq_true hi,cond_true,zj (l := L) (d := false) h1 (by omega),zj (l := R) (d := false) h1 (by omega),Option.bind_some,hw,a1,a2]
      cases hb:L.getD i.toNat false <;> cases hc:R.getD i.toNat false <;> simp only [hb,hc,Bool.not_true,Bool.not_false,if_true,Bool.false_eq_true,if_false] at s1 s2 <;> simp only [Bool.not_true,Bool.not_false,cond_true,cond_false] <;> exact Tot.some ⟨⟨by simp only []; omega,by simp only []; omega,by simp only [e]; exact s1.symm,by simp only [e]; exact s2.symm⟩,by simp only []; omega⟩
    · simp only [decide_eq_false hi,cond_false]
      have:i = n := by omega
      subst this
      exact Tot.some (by rw [h3,h4]; rfl)
end
theorem zp28 {n:Nat} (hn:n < 1000):Tot (fun l:List Int => l.length = n ∧ ∀ b,InR n b → mb l b = -1) (iter (σ := (Int × (List Int))) (τ := ((List Int))) (fun s26 =>
cond ((decide (s26.1 < (lenI (List.replicate n (0:Int)))))) (Option.bind (idx s26.2 s26.1) fun _ =>
some (.inl (((w64 (s26.1 + 1)),(s26.2).set (Int.toNat s26.1) ((-1)))))) (some (.inr s26.2))) big ((0,List.replicate n (0:Int)))) := by
 have hl:lenI (List.replicate n (0:Int)) = n := by rw [zh,List.length_replicate]
 simp only [hl]
 refine Tot.iter (fun s:Int × List Int => 0 ≤ s.1 ∧ s.1 ≤ n ∧ s.2.length = n ∧ ∀ b,InR n b → b < s.1 → mb s.2 b = -1) _ (fun s => n - s.1.toNat) ?_ (by simp only [big]; omega) ?_
 ·exact ⟨Int.le_refl _,by simp only []; omega,by simp,fun b hb q => by unfold InR at hb; simp only [] at q; omega⟩
 ·rintro ⟨i,m⟩ ⟨h1,h2,h3,h4⟩
  simp only [] at h1 h2 h3 h4
  simp only []
  by_cases hi:i < n
  ·have hw:w64 (i + 1) = i + 1 := zn (by omega) (by omega)
   simp only [decide_eq_true hi,cond_true,zj (l := m) (d := (0:Int)) h1 (by omega),Option.bind_some,hw]
   refine Tot.some ⟨⟨by simp only []; omega,by simp only []; omega,by simp only [List.length_set]; exact h3,fun b hb q => ?_⟩,by simp only []; omega⟩
   simp only [] at q ⊢
   rw [zk6 h3 ⟨h1,hi⟩ hb]
   by_cases e:i = b
   ·rw [if_pos e]
   ·rw [if_neg e]; exact h4 b hb (by omega)
  ·simp only [decide_eq_false hi,cond_false]
   have:i = n := by omega
   subst this
   exact Tot.some ⟨h3,fun b hb => h4 b hb hb.2⟩
theorem za32 {t:List Task} {y:Yard} (hf:fine t y = true):t.length ≤ 60 := by
 unfold fine head at hf
 simp only [Bool.and_eq_true,decide_eq_true_eq] at hf
 omega
structure CarsR (t:List Task) (y:Yard) (p:List (List Int)) (q:DutyProof):Prop where
 plan:PlanG t y p
 most:∃ l,Most (Edg t.length (follB t y)) (fun x => 0 ≤ x ∧ x < t.length) l ∧ l.length + p.length = t.length
 l1:q.1.length ≤ t.length
 l2:q.2.1.length ≤ t.length
 prov:provB t y p.length q = true
 rows:∀ r ∈ p,r.length ≤ t.length
theorem cars_spec {t:List Task} {y:Yard} (hF:Few t y) (hf:fine t y = true):∃ p q,zx5 t y = some (p,q,0) ∧ CarsR t y p q := by
  suffices hs:Tot (fun r:List (List Int) × DutyProof × Int => r.2.2 = 0 ∧ CarsR t y r.1 r.2.1) (zx5 t y) by
    obtain ⟨⟨p,q,e⟩,h1,h2,h3⟩ := hs
    simp only [] at h2
    subst h2
    exact ⟨p,q,h1,h3⟩
  have ht := hF.t
  have hfol:∀ a b,InR t.length a → InR t.length b → zp (t,y,()) a b = some (follB t y a b) := fun a b ha hb => zc6 hf ha hb
  have hlt:∀ a b,follB t y a b = true → a < b := fun a b h => by
    unfold follB at h
    simp only [Bool.and_eq_true,decide_eq_true_eq] at h
    omega
  obtain ⟨F,l0,hF1,hF2,hF3,hF4,hF5⟩ := zk20 (n := t.length) (w := (t,y,())) rfl hfol hlt ht
  have hfl := zm38 hF2 hF3 hlt
  unfold zx5
  have hm0:mkO 8 (lenI t) (0:Int) = some (List.replicate t.length 0) := by rw [zh,zq5 (by omega)]; simp
  have hm1:mkO 1 (lenI t) (false:Bool) = some (List.replicate t.length false) := by rw [zh,zq5 (by omega)]; simp
  rw [zw22 t y hF,hf,if_pos rfl,Option.bind_some]
  simp only [show ((0:Int) != 0) = false from rfl,cond_false,hF1,Option.bind_some,hm0,hm1]
  refine (zp28 (by omega)).bind fun mt0 hmt0 => ?_
  have hl:lenI t = (t.length:Int) := rfl
  simp only [hl]
  refine (zl28 hfl (by omega) hmt0.1 hmt0.2).bind fun mt hv => ?_
  refine (zm28 hfl (by omega) hv).bind fun p hc => ?_
  refine (zo28 hfol hfl hF3 hv (by omega) hF4 hF5.symm).bind fun o ho => ?_
  rw [zq21 ho.ll ho.lr (by omega)]
  obtain ⟨hpm,hpl⟩ := zz22 hfl hF3 hv
  have hlen := hc.len hfl hv
  have hpg := hc.planG rfl hfl hF3
  refine Tot.some ⟨rfl, ?_⟩
  simp only []
  have hrows:∀ r ∈ p,r.length ≤ t.length := by
    intro r hr
    obtain ⟨k,hk,rfl⟩ := List.getElem_of_mem hr
    obtain ⟨s,a1,_,_,a4⟩ := hc.row k hk
    rw [show p.getD k [] = p[k] by simp [List.getD,hk]] at a4
    exact zk14 a4.nd fun x hx => (((a4.mem x).1 hx).inR hfl a1).1
  have hcnt := hc.cnt
  have hpl80 := za32 hf
  obtain ⟨l',hl1,hl2⟩ := zv31 hF hf (p := p) (by omega) (fun r hr => by have := hrows r hr; omega) (planned_true hF hf hpg)
  have hle := hF4.most l' hl1 fun q hq => (hl1.e q hq).1
  have s1 := zl14 (fun x => !o.2.getD x false) t.length
  have s2 := zl14 (fun x => o.1.getD x false) t.length
  have hcov := zj28 (n := t.length) (F := F) (mt := mt) (L := o.2) (R := o.1) hF2 (fun b hb q => by
      obtain ⟨c1,_,c3⟩ := hv.yes b hb q
      exact ⟨c1,c3⟩) (fun x hx e => ho.don (x:Int) ⟨by omega,by omega⟩ (by omega) e) (fun x hx => (hF3.rng _ (zj1 (by omega))).2) (fun b hb q => ho.cr b hb q)
  have hselL:(sel (fun x => !o.2.getD x false) t.length).length = ((List.range t.length).filter fun x => !o.2.getD x false).length := by unfold sel; rw [List.length_map]
  have hselR:(sel (fun x => o.1.getD x false) t.length).length = ((List.range t.length).filter fun x => o.1.getD x false).length := by unfold sel; rw [List.length_map]
  refine ⟨hpg,⟨l0,hF4,by omega⟩,s1,s2, ?_,hrows⟩
  unfold provB
  simp only [hf,Bool.true_and,zq35,hl,Bool.and_true]
  rw [decide_eq_true (show (0:Int) ≤ p.length by omega),decide_eq_true (show (p.length:Int) ≤ t.length by omega),decide_eq_true (by omega)]
  simp only [Bool.true_and]
  rw [List.all_eq_true]
  intro i hi
  have hi := List.mem_range.1 hi
  unfold covB
  rw [List.all_eq_true]
  intro j hj
  have hj := List.mem_range.1 hj
  cases hg:follB t y i j with
  | false => rfl
  | true =>
    simp only [Bool.not_true,Bool.false_or]
    have hiR:InR t.length (i:Int) := ⟨by omega,by omega⟩
    have hjR:InR t.length (j:Int) := ⟨by omega,by omega⟩
    cases hb:sb o.2 i with
    | true =>
      have := ho.cl i hiR hb j hjR hg
      rw [za23.2 (zp21.2 ⟨hjR,this⟩),Bool.or_true]
    | false =>
      rw [za23.2 (zp21.2 ⟨hiR,by have:o.2.getD (i:Int).toNat false = false := hb; rw [this]; rfl⟩),Bool.true_or]
end Go.Ai.Sx.Du

/- The duties: what is known of a plan of cars: each task once,and each follows the one before it. -/
namespace Go.Ai.Sx.Du
theorem zb23 {A:Type} {l:List A} {i:Nat} {d:A} (h:i < l.length):l.getD i d = l[i] := by simp [List.getD,h]
section
variable {n:Nat} {g:Int → Int → Bool}
def chainB (g:Int → Int → Bool) (row:List Int) (j:Int):Prop := ∀ k:Nat,(k:Int) + 1 < j → g (row.getD k 0) (row.getD (k + 1) 0) = true
structure Seen (n:Nat) (us:List Bool) (c:Int) (acc:List Int):Prop where
 ln:us.length = n
 mem:∀ x,InR n x → (sb us x = true ↔ x ∈ acc)
 nd:acc.Nodup
 rng:∀ x ∈ acc,InR n x
 c:c = acc.length
theorem Seen.next {us:List Bool} {c x:Int} {acc:List Int} (h:Seen n us c acc) (hx:InR n x) (hu:us.getD x.toNat false = false):Seen n (us.set x.toNat true) (c + 1) (acc ++ [x]) := by
 have hn:x ∉ acc := fun q => by
  have := (h.mem x hx).2 q
  unfold sb at this
  rw [hu] at this
  cases this
 refine ⟨by rw [List.length_set]; exact h.ln,fun z hz => ?_, ?_,fun z hz => ?_, ?_⟩
 ·rw [zr8 h.ln hx hz,List.mem_append,List.mem_singleton]
  by_cases e:x = z
  ·rw [if_pos e]; exact ⟨fun _ => .inr e.symm,fun _ => rfl⟩
  ·rw [if_neg e,h.mem z hz]
   exact ⟨.inl,fun q => q.resolve_right fun e2 => e e2.symm⟩
 ·rw [List.nodup_append]
  refine ⟨h.nd,by simp,fun a ha b hb e => ?_⟩
  rw [List.mem_singleton.1 hb] at e
  exact hn (e ▸ ha)
 ·rcases List.mem_append.1 hz with hz | hz
  ·exact h.rng z hz
  ·rw [List.mem_singleton.1 hz]; exact hx
 ·rw [List.length_append,List.length_singleton,h.c]; omega
theorem Seen.le {us:List Bool} {c:Int} {acc:List Int} (h:Seen n us c acc):0 ≤ c ∧ c ≤ n := by
 have := zk14 h.nd h.rng
 have := h.c
 omega
structure SeenR (n:Nat) (g:Int → Int → Bool) (row acc:List Int) (s:Int × Int × List Bool):Prop where
 lo:0 ≤ s.2.1
 hi:s.2.1 ≤ row.length
 sn:Seen n s.2.2 s.1 (acc ++ row.take s.2.1.toNat)
 ch:chainB g row s.2.1
theorem zb32 {t:List Task} {y:Yard} (hF:Few t y) (hf:fine t y = true) {row acc:List Int} (hr:row.length ≤ 1000) {c0:Int} {us:List Bool} (hs:Seen t.length us c0 acc) :
    Tot (fun r:(Int × List Bool) ⊕ (Bool × List Bool) => match r with
      | .inl v => Seen t.length v.2 v.1 (acc ++ row) ∧ chainB (follB t y) row row.length
      | .inr v => v.1 = false) (iter (σ := (Int × Int × (List Bool))) (τ := (Int × (List Bool)) ⊕ (Bool × (List Bool))) (fun s366 =>
cond ((decide (s366.2.1 < (lenI row)))) (Option.bind (idx row s366.2.1) fun x369 =>
Option.bind (zh1 x369 0 ((w64 ((lenI t) - 1)))) fun y377 =>
cond ((!y377)) (some (.inr ((.inr ((false,s366.2.2)))))) (Option.bind (idx s366.2.2 x369) fun x380 =>
cond (x380) (some (.inr ((.inr ((false,s366.2.2)))))) (cond ((decide (s366.2.1 > 0))) (Option.bind (idx row ((w64 (s366.2.1 - 1)))) fun x384 =>
Option.bind (zp (t,y,()) x384 x369) fun y385 =>
cond ((!y385)) (some (.inr ((.inr ((false,s366.2.2)))))) (Option.bind (idx s366.2.2 x369) fun _ =>
some (.inl (((w64 (s366.1 + 1)),(w64 (s366.2.1 + 1)),(s366.2.2).set (Int.toNat x369) true))))) (Option.bind (idx s366.2.2 x369) fun _ =>
some (.inl (((w64 (s366.1 + 1)),(w64 (s366.2.1 + 1)),(s366.2.2).set (Int.toNat x369) true))))))) (some (.inr ((.inl ((s366.1,s366.2.2))))))) big (c0,0,us)) := by
  have ht := hF.t
  refine Tot.iter (SeenR t.length (follB t y) row acc) _ (fun s => row.length - s.2.1.toNat) ⟨Int.le_refl _,by simp only []; omega,by simpa using hs,fun k hk => by simp only [] at hk; omega⟩ (by simp only [big]; omega) ?_
  rintro ⟨c,j,us⟩ h
  have h1 := h.lo
  have h2 := h.hi
  have h3 := h.sn
  have h4 := h.ch
  have h5 := h3.ln
  simp only [] at h1 h2 h3 h4 h5
  have hle := h3.le
  have hw:w64 (lenI t - 1) = (t.length:Int) - 1 := by rw [zh]; exact zn (by omega) (by omega)
  simp only [within_eq,Option.bind_some,hw]
  by_cases hj:j < row.length
  · have hx := zj (d := (0:Int)) h1 hj
    obtain ⟨x,hxe⟩:∃ x,row.getD j.toNat 0 = x := ⟨_,rfl⟩
    rw [hxe] at hx
    simp only [decide_eq_true (show j < lenI row from hj),cond_true,hx,Option.bind_some]
    by_cases hin:0 ≤ x ∧ x < t.length
    · have e2:(decide (0 ≤ x) && decide (x ≤ (t.length:Int) - 1)) = true := by simp only [Bool.and_eq_true,decide_eq_true_eq]; omega
      have hxR:InR t.length x := hin
      have hw2:w64 (j + 1) = j + 1 := zn (by omega) (by omega)
      have hw4:w64 (c + 1) = c + 1 := zn (by omega) (by omega)
      simp only [e2,Bool.not_true,cond_false,zj (d := false) (l := us) hin.1 (by omega),Option.bind_some,hw2,hw4]
      cases hux:us.getD x.toNat false with
      | true => exact Tot.some (show _ = _ from rfl)
      | false =>
        simp only [cond_false]
        have htk:row.take (j + 1).toNat = row.take j.toNat ++ [x] := by
          rw [show (j + 1).toNat = j.toNat + 1 by omega,List.take_add_one]
          congr 1
          rw [List.getElem?_eq_getElem (by omega)]
          simp only [Option.toList_some,List.cons.injEq,and_true]
          rw [← hxe]
          simp [List.getD,show j.toNat < row.length by omega]
        have hsn:Seen t.length (us.set x.toNat true) (c + 1) (acc ++ row.take (j + 1).toNat) := by
          rw [htk,← List.append_assoc]; exact h3.next hxR hux
        by_cases hj0:j > 0
        · have hw3:w64 (j - 1) = j - 1 := zn (by omega) (by omega)
          obtain ⟨z,hze⟩:∃ z,row.getD (j - 1).toNat 0 = z := ⟨_,rfl⟩
          have hpr:InR t.length z := h3.rng z (List.mem_append.2 (.inr (by
            rw [← hze,List.mem_take_iff_getElem]
            exact ⟨(j - 1).toNat,by omega,(zb23 (by omega)).symm⟩)))
          have hz := zj (d := (0:Int)) (show 0 ≤ j - 1 by omega) (show j - 1 < row.length by omega)
          rw [hze] at hz
          simp only [decide_eq_true hj0,cond_true,hw3,hz,Option.bind_some,zc6 hf hpr hxR]
          cases hg:follB t y z x with
          | false => exact Tot.some (show _ = _ from rfl)
          | true =>
            simp only [Bool.not_true,cond_false]
            refine Tot.some ⟨⟨by simp only []; omega,by simp only []; omega,hsn,fun k hk => ?_⟩,by simp only []; omega⟩
            simp only [] at hk
            by_cases e:(k:Int) + 1 < j
            · exact h4 k e
            · rw [show k + 1 = j.toNat by omega,show k = (j - 1).toNat by omega,hze,hxe]; exact hg
        · simp only [decide_eq_false hj0,cond_false]
          exact Tot.some ⟨⟨by simp only []; omega,by simp only []; omega,hsn,fun k hk => by simp only [] at hk; omega⟩,by simp only []; omega⟩
    · have e2:(decide (0 ≤ x) && decide (x ≤ (t.length:Int) - 1)) = false := by simp only [Bool.and_eq_false_iff,decide_eq_false_iff_not]; omega
      simp only [e2,Bool.not_false,cond_true]
      exact Tot.some (show _ = _ from rfl)
  · simp only [decide_eq_false (show ¬ j < lenI row from hj),cond_false]
    have:j = row.length := by omega
    subst this
    exact Tot.some ⟨by simpa using h3,h4⟩
end
structure PlanS (t:List Task) (y:Yard) (p:List (List Int)):Prop where
 nd:p.flatten.Nodup
 rng:∀ x ∈ p.flatten,InR t.length x
 len:p.flatten.length = t.length
 ch:∀ row ∈ p,chainB (follB t y) row row.length
 nz:∀ k:Nat,k < p.length → 0 < (p.getD k []).length
structure PlanSI (t:List Task) (y:Yard) (p:List (List Int)) (s:Int × Int × List Bool):Prop where
 lo:0 ≤ s.2.1
 hi:s.2.1 ≤ p.length
 sn:Seen t.length s.2.2 s.1 (p.take s.2.1.toNat).flatten
 ch:∀ k:Nat,(k:Int) < s.2.1 → chainB (follB t y) (p.getD k []) (p.getD k []).length
 nz:∀ k:Nat,(k:Int) < s.2.1 → 0 < (p.getD k []).length
theorem plan_seen {t:List Task} {y:Yard} (hF:Few t y) (hf:fine t y = true) {p:List (List Int)} (hp:p.length ≤ 80) (hrow:∀ r ∈ p,r.length ≤ 80) (h:zw (t,y,()) p = some true):PlanS t y p := by
  suffices hs:Tot (fun b:Bool => b = true → PlanS t y p) (zw (t,y,()) p) by
    obtain ⟨b,h1,h2⟩ := hs
    rw [h] at h1
    cases h1
    exact h2 rfl
  have ht := hF.t
  clear h
  unfold zw
  have hm:mkO 1 (lenI t) (false:Bool) = some (List.replicate t.length false) := by
    rw [zh,zq5 (by omega)]; simp
  simp only [hm,Option.bind_some]
  refine Tot.bind (Q := fun r:(Int × List Bool) ⊕ Bool => match r with
    | .inl v => v.1 = (t.length:Int) → PlanS t y p
    | .inr v => v = false) (Tot.iter (PlanSI t y p) _ (fun s => p.length - s.2.1.toNat) ?_ (by first | (simp only [big]; omega) | omega) ?_) ?_
  · exact ⟨Int.le_refl _,by simp only []; omega,⟨by simp,fun x _ => by simp [zn28],by simp,by simp,by simp⟩,fun k hk => by simp only [] at hk; omega,fun k hk => by simp only [] at hk; omega⟩
  · rintro ⟨c,i,us⟩ h
    have h1 := h.lo
    have h2 := h.hi
    have h3 := h.sn
    simp only [] at h1 h2 h3
    by_cases hi:i < p.length
    · have hx := zj (d := ([]:List Int)) h1 hi
      have hmem:p.getD i.toNat [] ∈ p := zj1 (by omega)
      have hl := hrow _ hmem
      have hw2:w64 (i + 1) = i + 1 := zn (by omega) (by omega)
      simp only [decide_eq_true (show i < lenI p from hi),cond_true,hx,Option.bind_some]
      by_cases h0:(p.getD i.toNat []).length = 0
      · have e2:(lenI (p.getD i.toNat []) == 0) = true := by simp only [zh,beq_iff_eq]; omega
        simp only [e2,cond_true]
        exact Tot.some (show _ = _ from rfl)
      · have e2:(lenI (p.getD i.toNat []) == 0) = false := by rw [beq_eq_false_iff_ne]; simp only [zh]; omega
        simp only [e2,cond_false,hw2]
        obtain ⟨r,hr1,hr2⟩ := zb32 hF hf (row := p.getD i.toNat []) (by omega) h3
        have htk:(p.take (i + 1).toNat).flatten = (p.take i.toNat).flatten ++ p.getD i.toNat [] := by
          rw [show (i + 1).toNat = i.toNat + 1 by omega,List.take_add_one,List.flatten_append]
          congr 1
          rw [List.getElem?_eq_getElem (by omega)]
          simp [List.getD,show i.toNat < p.length by omega]
        have fin:∀ r,(match r with
            | .inl v => Seen t.length v.2 v.1 ((p.take i.toNat).flatten ++ p.getD i.toNat []) ∧ chainB (follB t y) (p.getD i.toNat []) (p.getD i.toNat []).length
            | .inr v => v.1 = false:Prop) → Tot (StepT (PlanSI t y p) (fun r:(Int × List Bool) ⊕ Bool => match r with
    | .inl v => v.1 = (t.length:Int) → PlanS t y p
    | .inr v => v = false) (fun s => p.length - s.2.1.toNat) (c,i,us)) (alt (fun b392:Int × List Bool => some (.inl ((b392.1,i + 1,b392.2)))) (fun b393:Bool × List Bool => some (.inr ((.inr b393.1)))) r) := fun r hr => by
          cases r with
          | inl v => exact Tot.some ⟨⟨by simp only []; omega,by simp only []; omega,by simp only []; rw [htk]; exact hr.1,fun k hk => by
            simp only [] at hk
            by_cases hki:(k:Int) < i
            · exact h.ch k hki
            · have:k = i.toNat := by omega
              subst this; exact hr.2,fun k hk => by
            simp only [] at hk
            by_cases hki:(k:Int) < i
            · exact h.nz k hki
            · have:k = i.toNat := by omega
              subst this; omega⟩,by simp only []; omega⟩
          | inr v => exact Tot.some (show _ = _ from hr)
        by_cases hi0:i > 0
        · have hw3:w64 (i - 1) = i - 1 := zn (by omega) (by omega)
          simp only [decide_eq_true hi0,cond_true,hw3,zj (d := ([]:List Int)) (show 0 ≤ i - 1 by omega) (show i - 1 < p.length by omega),zj (d := (0:Int)) (Int.le_refl 0) (show (0:Int) < (p.getD i.toNat []).length by omega),Option.bind_some]
          have hnz := h.nz (i - 1).toNat (by simp only []; omega)
          simp only [zj (d := (0:Int)) (Int.le_refl 0) (show (0:Int) < (p.getD (i - 1).toNat []).length by omega),Option.bind_some,hr1]
          cases decide ((p.getD i.toNat []).getD (Int.toNat 0) 0 ≤ (p.getD (i - 1).toNat []).getD (Int.toNat 0) 0) with
          | true => exact Tot.some (show _ = _ from rfl)
          | false => exact fin r hr2
        · simp only [decide_eq_false hi0,cond_false,hr1,Option.bind_some]
          exact fin r hr2
    · simp only [decide_eq_false (show ¬ i < lenI p from hi),cond_false]
      have:i = p.length := by omega
      subst this
      refine Tot.some (show _ → _ from fun e => ?_)
      simp only [Int.toNat_natCast,List.take_length] at h3
      refine ⟨h3.nd,h3.rng,by have := h3.c; simp only [] at e; omega,fun row hrw => ?_,fun k hk => h.nz k (by simp only []; omega)⟩
      obtain ⟨k,hk,rfl⟩ := List.getElem_of_mem hrw
      have := h.ch k (by simp only []; omega)
      simpa [List.getD,hk] using this
  · intro r hr
    cases r with
    | inl v =>
      simp only [zg5]
      refine Tot.some fun e => hr ?_
      rw [beq_iff_eq,zh] at e
      omega
    | inr v =>
      have e:v = false := hr
      subst e
      exact Tot.some fun e => by cases e
end Go.Ai.Sx.Du
