/- The duties: which rules a duty breaks. -/
import Derived.Test.YtafbcffccnjgfaaM14
import Derived.Test.YtafbcffccnjgfaaM15
namespace Go.Ai.Sx.Du
theorem iter_chain {σ τ:Type} {f:σ → Option (σ ⊕ τ)} (ss:Nat → σ) (N:Nat) (r:τ) {s0:σ} (h0:ss 0 = s0) (hN:N < big) (hf:∀ i:Nat,i < N → f (ss i) = some (.inl (ss (i + 1)))) (he:f (ss N) = some (.inr r)):iter f big s0 = some r := by
 subst h0
 have key:∀ k n i:Nat,i + k = N → k < n → iter f n (ss i) = some r := by
  intro k
  induction k with
  | zero =>
   intro n i hi hn
   obtain ⟨n,rfl⟩:∃ q,n = q + 1 := ⟨n - 1,by omega⟩
   have:i = N := by omega
   subst this
   simp only [iter,he]
  | succ k ih =>
   intro n i hi hn
   obtain ⟨n,rfl⟩:∃ q,n = q + 1 := ⟨n - 1,by omega⟩
   simp only [iter,hf i (by omega)]
   exact ih n (i + 1) (by omega) (by omega)
 exact key N big 0 (by omega) hN
def rulesB (r:WorkRules):Bool := [r.1,r.2.1,r.2.2.1,r.2.2.2.1,r.2.2.2.2.1,r.2.2.2.2.2.1].all fun x => decide (0 ≤ x) && decide (x ≤ 200000)
theorem rules_ref (r:WorkRules):zd8 r = some (rulesB r) := by
 unfold zd8 rulesB
 simp only [in_eq,Option.bind_some,List.all_cons,List.all_nil,Bool.and_true]
 generalize (decide (0 ≤ r.1) && decide (r.1 ≤ 200000)) = b1
 generalize (decide (0 ≤ r.2.1) && decide (r.2.1 ≤ 200000)) = b2
 generalize (decide (0 ≤ r.2.2.1) && decide (r.2.2.1 ≤ 200000)) = b3
 generalize (decide (0 ≤ r.2.2.2.1) && decide (r.2.2.2.1 ≤ 200000)) = b4
 generalize (decide (0 ≤ r.2.2.2.2.1) && decide (r.2.2.2.2.1 ≤ 200000)) = b5
 generalize (decide (0 ≤ r.2.2.2.2.2.1) && decide (r.2.2.2.2.2.1 ≤ 200000)) = b6
 cases b1 <;> cases b2 <;> cases b3 <;> cases b4 <;> cases b5 <;> rfl
theorem zl24 (r:WorkRules):zy [r.1,r.2.1,r.2.2.1,r.2.2.2.1,r.2.2.2.2.1,r.2.2.2.2.2.1] (fun x => zq4 x) = some (!rulesB r) := by
 rw [zq8 (q := fun x => !(decide (0 ≤ x) && decide (x ≤ 200000))) (by simp) (fun x _ => by simp only [zq4,within_eq,Option.bind_some])]
 simp only [rulesB,List.any_cons,List.any_nil,List.all_cons,List.all_nil,Bool.not_and,Bool.or_false,Bool.and_true]
theorem zs12 {r:WorkRules} (h:rulesB r = true):(0 ≤ r.2.2.2.2.1 ∧ r.2.2.2.2.1 ≤ 200000) ∧ (0 ≤ r.2.2.2.2.2.1 ∧ r.2.2.2.2.2.1 ≤ 200000) := by
 simp only [rulesB,List.all_cons,List.all_nil,Bool.and_true,Bool.and_eq_true,decide_eq_true_eq] at h
 omega
def P0:DutyPiece := (0,0,0,())
def fstT (t:List Task) (p:List (List Int)) (x:DutyPiece):Task := t.getD ((p.getD x.1.toNat []).getD x.2.1.toNat 0).toNat T0
def lstT (t:List Task) (p:List (List Int)) (x:DutyPiece):Task := t.getD ((p.getD x.1.toNat []).getD x.2.2.1.toNat 0).toNat T0
structure PieceI (t:List Task) (p:List (List Int)) (x:DutyPiece):Prop where
 car:0 ≤ x.1 ∧ x.1 < p.length
 fr:0 ≤ x.2.1 ∧ x.2.1 < (p.getD x.1.toNat []).length
 to:0 ≤ x.2.2.1 ∧ x.2.2.1 < (p.getD x.1.toNat []).length
 f:InR t.length ((p.getD x.1.toNat []).getD x.2.1.toNat 0)
 l:InR t.length ((p.getD x.1.toNat []).getD x.2.2.1.toNat 0)
theorem zi18 {t:List Task} {p:List (List Int)} {x:DutyPiece} (h:PieceI t p x):zy2 t p x = some (fstT t p x,lstT t p x) := by
 unfold zy2 fstT lstT
 simp only [zj (d := ([]:List Int)) h.car.1 h.car.2,zj (d := (0:Int)) h.fr.1 h.fr.2,zj (d := (0:Int)) h.to.1 h.to.2,zj (d := T0) h.f.1 h.f.2,zj (d := T0) h.l.1 h.l.2,Option.bind_some]
theorem zt12 {t:List Task} {y:Yard} {p:List (List Int)} {r:WorkRules} {x:DutyPiece} (h:PieceI t p x):zm2 ((t,y,()),p,r,()) x = some (fstT t p x) := by
 unfold zm2 fstT
 simp only [zj (d := ([]:List Int)) h.car.1 h.car.2,zj (d := (0:Int)) h.fr.1 h.fr.2,zj (d := T0) h.f.1 h.f.2,Option.bind_some]
theorem zj18 {t:List Task} {y:Yard} {p:List (List Int)} {r:WorkRules} {x:DutyPiece} (h:PieceI t p x):zj2 ((t,y,()),p,r,()) x = some (lstT t p x) := by
 unfold zj2 lstT
 simp only [zj (d := ([]:List Int)) h.car.1 h.car.2,zj (d := (0:Int)) h.to.1 h.to.2,zj (d := T0) h.l.1 h.l.2,Option.bind_some]
theorem zd6 {t:List Task} {y:Yard} (h:fine t y = true) {i:Nat} (hi:i < t.length):0 ≤ (t.getD i T0).2.2.1 ∧ (t.getD i T0).2.2.1 ≤ (t.getD i T0).2.2.2.1 ∧ (t.getD i T0).2.2.2.1 ≤ 200000 := by
 simp only [fine,Bool.and_eq_true] at h
 have := List.all_eq_true.1 h.2 i (List.mem_range.2 hi)
 simp only [taskOk,Bool.and_eq_true,decide_eq_true_eq] at this
 omega
def lngB (t:List Task) (p:List (List Int)) (r:WorkRules) (x:DutyPiece):Bool := decide (w64 ((lstT t p x).2.2.2.1 - (fstT t p x).2.2.1) > r.1)
def relB (t:List Task) (y:Yard) (p:List (List Int)) (x:DutyPiece):Bool :=
 (decide (x.2.1 > 0) && !(y.2.2.1.getD (fstT t p x).1.toNat false)) || (decide (x.2.2.1 < w64 (lenI (p.getD x.1.toNat []) - 1)) && !(y.2.2.1.getD (lstT t p x).2.1.toNat false))
theorem zk18 {t:List Task} {y:Yard} {p:List (List Int)} {r:WorkRules} {d:Duty} (hf:fine t y = true) {x:DutyPiece} (h:PieceI t p x) (c1 c2:Bool) (tm j:Int) (hj:j < lenI d.1) (hx:idx d.1 j = some x) :
    (fun s53 =>
cond ((decide (s53.2.2.2 < (lenI d.1)))) (Option.bind (idx d.1 s53.2.2.2) fun x56 =>
Option.bind (zy2 t p x56) fun y59 =>
cond (s53.1) (cond (s53.2.1) (some (.inl ((true,true,(w64 ((w64 (s53.2.2.1 + y59.2.2.2.2.1)) - y59.1.2.2.1)),(w64 (s53.2.2.2 + 1)))))) (cond ((decide (x56.2.1 > 0))) (Option.bind (idx y.2.2.1 y59.1.1) fun x78 =>
cond ((!x78)) (some (.inl ((true,true,(w64 ((w64 (s53.2.2.1 + y59.2.2.2.2.1)) - y59.1.2.2.1)),(w64 (s53.2.2.2 + 1)))))) (Option.bind (idx p x56.1) fun x80 =>
cond ((decide (x56.2.2.1 < (w64 ((lenI x80) - 1))))) (Option.bind (idx y.2.2.1 y59.2.2.1) fun x82 =>
some (.inl ((true,(!x82),(w64 ((w64 (s53.2.2.1 + y59.2.2.2.2.1)) - y59.1.2.2.1)),(w64 (s53.2.2.2 + 1)))))) (some (.inl ((true,false,(w64 ((w64 (s53.2.2.1 + y59.2.2.2.2.1)) - y59.1.2.2.1)),(w64 (s53.2.2.2 + 1)))))))) (Option.bind (idx p x56.1) fun x83 =>
cond ((decide (x56.2.2.1 < (w64 ((lenI x83) - 1))))) (Option.bind (idx y.2.2.1 y59.2.2.1) fun x85 =>
some (.inl ((true,(!x85),(w64 ((w64 (s53.2.2.1 + y59.2.2.2.2.1)) - y59.1.2.2.1)),(w64 (s53.2.2.2 + 1)))))) (some (.inl ((true,false,(w64 ((w64 (s53.2.2.1 + y59.2.2.2.2.1)) - y59.1.2.2.1)),(w64 (s53.2.2.2 + 1))))))))) (cond (s53.2.1) (some (.inl (((decide ((w64 (y59.2.2.2.2.1 - y59.1.2.2.1)) > r.1)),true,(w64 ((w64 (s53.2.2.1 + y59.2.2.2.2.1)) - y59.1.2.2.1)),(w64 (s53.2.2.2 + 1)))))) (cond ((decide (x56.2.1 > 0))) (Option.bind (idx y.2.2.1 y59.1.1) fun x98 =>
cond ((!x98)) (some (.inl (((decide ((w64 (y59.2.2.2.2.1 - y59.1.2.2.1)) > r.1)),true,(w64 ((w64 (s53.2.2.1 + y59.2.2.2.2.1)) - y59.1.2.2.1)),(w64 (s53.2.2.2 + 1)))))) (Option.bind (idx p x56.1) fun x100 =>
cond ((decide (x56.2.2.1 < (w64 ((lenI x100) - 1))))) (Option.bind (idx y.2.2.1 y59.2.2.1) fun x102 =>
some (.inl (((decide ((w64 (y59.2.2.2.2.1 - y59.1.2.2.1)) > r.1)),(!x102),(w64 ((w64 (s53.2.2.1 + y59.2.2.2.2.1)) - y59.1.2.2.1)),(w64 (s53.2.2.2 + 1)))))) (some (.inl (((decide ((w64 (y59.2.2.2.2.1 - y59.1.2.2.1)) > r.1)),false,(w64 ((w64 (s53.2.2.1 + y59.2.2.2.2.1)) - y59.1.2.2.1)),(w64 (s53.2.2.2 + 1)))))))) (Option.bind (idx p x56.1) fun x103 =>
cond ((decide (x56.2.2.1 < (w64 ((lenI x103) - 1))))) (Option.bind (idx y.2.2.1 y59.2.2.1) fun x105 =>
some (.inl (((decide ((w64 (y59.2.2.2.2.1 - y59.1.2.2.1)) > r.1)),(!x105),(w64 ((w64 (s53.2.2.1 + y59.2.2.2.2.1)) - y59.1.2.2.1)),(w64 (s53.2.2.2 + 1)))))) (some (.inl (((decide ((w64 (y59.2.2.2.2.1 - y59.1.2.2.1)) > r.1)),false,(w64 ((w64 (s53.2.2.1 + y59.2.2.2.2.1)) - y59.1.2.2.1)),(w64 (s53.2.2.2 + 1)))))))))) (some (.inr (((s53.1,s53.2.1,s53.2.2.1)))))) (c1,c2,tm,j) = some (.inl (c1 || lngB t p r x,c2 || relB t y p x,w64 (w64 (tm + (lstT t p x).2.2.2.1) - (fstT t p x).2.2.1),w64 (j + 1)):(Bool × Bool × Int × Int) ⊕ (Bool × Bool × Int)) := by
  have h1 := (fine_task hf (i := ((p.getD x.1.toNat []).getD x.2.1.toNat 0).toNat) (by have := h.f; unfold InR at this; omega)).1
  have h2 := (fine_task hf (i := ((p.getD x.1.toNat []).getD x.2.2.1.toNat 0).toNat) (by have := h.l; unfold InR at this; omega)).2
  simp only [decide_eq_true hj,cond_true,hx,Option.bind_some,zi18 h,zj (d := ([]:List Int)) h.car.1 h.car.2,zj (d := false) (show 0 ≤ (fstT t p x).1 from h1.1) (show (fstT t p x).1 < y.2.2.1.length from h1.2),zj (d := false) (show 0 ≤ (lstT t p x).2.1 from h2.1) (show (lstT t p x).2.1 < y.2.2.1.length from h2.2)]
  unfold lngB relB
  generalize y.2.2.1.getD (fstT t p x).1.toNat false = a1
  generalize y.2.2.1.getD (lstT t p x).2.1.toNat false = a2
  generalize decide (x.2.1 > 0) = a3
  generalize decide (x.2.2.1 < w64 (lenI (p.getD x.1.toNat []) - 1)) = a4
  cases c1 <;> cases c2 <;> cases a1 <;> cases a2 <;> cases a3 <;> cases a4 <;> rfl
end Go.Ai.Sx.Du

/- The duties: the list of the rules that a duty breaks. -/
namespace Go.Ai.Sx.Du
def fl (b1 b2 b3 b4 b5 b6:Bool):List Int := cond b1 [1] [] ++ (cond b2 [2] [] ++ (cond b3 [3] [] ++ (cond b4 [4] [] ++ (cond b5 [5] [] ++ cond b6 [6] []))))
section
variable (t:List Task) (y:Yard) (p:List (List Int)) (r:WorkRules)
def dstB (a b:DutyPiece):Int := (y.1.getD (lstT t p a).2.1.toNat []).getD (fstT t p b).1.toNat 0
def ordB (a b:DutyPiece):Bool := decide (w64 ((fstT t p b).2.2.1 - (lstT t p a).2.2.2.1) < 0) || decide (dstB t y p a b < 0)
def brkB (a b:DutyPiece):Bool := decide (w64 ((fstT t p b).2.2.1 - (lstT t p a).2.2.2.1) < w64 (r.2.2.2.1 + dstB t y p a b))
def spnB (a b:DutyPiece):Bool := decide (w64 (w64 (w64 ((lstT t p b).2.2.2.1 - (fstT t p a).2.2.1) + r.2.2.2.2.1) + r.2.2.2.2.2.1) > r.2.1)
def lasI (x:DutyPiece):Int := (lstT t p x).2.2.2.1 - (fstT t p x).2.2.1
end
theorem zm14 {t:List Task} {y:Yard} {p:List (List Int)} {r:WorkRules} {d:Duty} {a:DutyPiece} (hf:fine t y = true) (hr:rulesB r = true) (hd:d.1 = [a]) (ha:PieceI t p a) :
    zl4 t y p r d = some (fl (lngB t p r a) (relB t y p a) false false (spnB t p r a a) (decide (r.2.2.2.2.1 + r.2.2.2.2.2.1 + lasI t p a > r.2.2.1))) := by
  have hl:lenI d.1 = 1 := by rw [hd]; rfl
  have hx:idx d.1 0 = some a := by rw [hd]; rfl
  have hri := zs12 hr
  have t1 := zd6 hf (i := ((p.getD a.1.toNat []).getD a.2.1.toNat 0).toNat) (by have := ha.f; unfold InR at this; omega)
  have t2 := zd6 hf (i := ((p.getD a.1.toNat []).getD a.2.2.1.toNat 0).toNat) (by have := ha.l; unfold InR at this; omega)
  unfold zl4
  have hs := zk18 (r := r) (d := d) hf ha false false (w64 (r.2.2.2.2.1 + r.2.2.2.2.2.1)) 0 (by rw [hl]; omega) hx
  simp only [Bool.false_or,show w64 ((0:Int) + 1) = 1 from by decide] at hs
  rw [iter_chain (σ := Bool × Bool × Int × Int) (τ := Bool × Bool × Int) (s0 := (false,false,w64 (r.2.2.2.2.1 + r.2.2.2.2.2.1),0)) (fun k => match k with
    | 0 => (false,false,w64 (r.2.2.2.2.1 + r.2.2.2.2.2.1),0)
    | _ + 1 => (lngB t p r a,relB t y p a,w64 (w64 (w64 (r.2.2.2.2.1 + r.2.2.2.2.2.1) + (lstT t p a).2.2.2.1) - (fstT t p a).2.2.1),1)) 1 (lngB t p r a,relB t y p a,w64 (w64 (w64 (r.2.2.2.2.1 + r.2.2.2.2.2.1) + (lstT t p a).2.2.2.1) - (fstT t p a).2.2.1)) rfl (by simp only [big]; omega) (fun i hi => by
      have:i = 0 := by omega
      subst this; exact hs) (by simp only [hl]; rfl)]
  have hw:w64 (w64 (w64 (r.2.2.2.2.1 + r.2.2.2.2.2.1) + (lstT t p a).2.2.2.1) - (fstT t p a).2.2.1) = r.2.2.2.2.1 + r.2.2.2.2.2.1 + lasI t p a := by
    unfold lasI fstT lstT
    rw [zn (n := r.2.2.2.2.1 + r.2.2.2.2.2.1) (by omega) (by omega),zn (n := _ + _) (by omega) (by omega),zn (by omega) (by omega)]
    omega
  simp only [Option.bind_some,hl,hx,zi18 ha,hw,show ((1:Int) == 2) = false from rfl,cond_false]
  unfold spnB
  generalize decide (w64 (w64 (w64 ((lstT t p a).2.2.2.1 - (fstT t p a).2.2.1) + r.2.2.2.2.1) + r.2.2.2.2.2.1) > r.2.1) = b5
  generalize decide (r.2.2.2.2.1 + r.2.2.2.2.2.1 + lasI t p a > r.2.2.1) = b6
  generalize lngB t p r a = b1
  generalize relB t y p a = b2
  cases b1 <;> cases b2 <;> cases b5 <;> cases b6 <;> rfl
theorem zr21 {t:List Task} {y:Yard} {p:List (List Int)} {r:WorkRules} {d:Duty} {a b:DutyPiece} (hf:fine t y = true) (hr:rulesB r = true) (hd:d.1 = [a,b]) (ha:PieceI t p a) (hb:PieceI t p b) :
    zl4 t y p r d = some (fl (lngB t p r a || lngB t p r b) (relB t y p a || relB t y p b) (ordB t y p a b) (!ordB t y p a b && brkB t y p r a b) (spnB t p r a b) (decide (r.2.2.2.2.1 + r.2.2.2.2.2.1 + lasI t p a + lasI t p b > r.2.2.1))) := by
  have hl:lenI d.1 = 2 := by rw [hd]; rfl
  have hx:idx d.1 0 = some a := by rw [hd]; rfl
  have hx1:idx d.1 1 = some b := by rw [hd]; rfl
  have hri := zs12 hr
  have fa := ha.f
  have la := ha.l
  have fb := hb.f
  have lb := hb.l
  unfold InR at fa la fb lb
  have t1 := zd6 hf (i := ((p.getD a.1.toNat []).getD a.2.1.toNat 0).toNat) (by omega)
  have t2 := zd6 hf (i := ((p.getD a.1.toNat []).getD a.2.2.1.toNat 0).toNat) (by omega)
  have t3 := zd6 hf (i := ((p.getD b.1.toNat []).getD b.2.1.toNat 0).toNat) (by omega)
  have t4 := zd6 hf (i := ((p.getD b.1.toNat []).getD b.2.2.1.toNat 0).toNat) (by omega)
  have k1 := (fine_task hf (i := ((p.getD a.1.toNat []).getD a.2.2.1.toNat 0).toNat) (by omega)).2
  have k2 := (fine_task hf (i := ((p.getD b.1.toNat []).getD b.2.1.toNat 0).toNat) (by omega)).1
  have hrow := zr12 hf (i := (lstT t p a).2.1.toNat) (by unfold lstT; omega)
  unfold zl4
  have hs := zk18 (r := r) (d := d) hf ha false false (w64 (r.2.2.2.2.1 + r.2.2.2.2.2.1)) 0 (by rw [hl]; omega) hx
  simp only [Bool.false_or,show w64 ((0:Int) + 1) = 1 from by decide] at hs
  have hs2 := zk18 (r := r) (d := d) hf hb (lngB t p r a) (relB t y p a) (w64 (w64 (w64 (r.2.2.2.2.1 + r.2.2.2.2.2.1) + (lstT t p a).2.2.2.1) - (fstT t p a).2.2.1)) 1 (by rw [hl]; omega) hx1
  simp only [show w64 ((1:Int) + 1) = 2 from by decide] at hs2
  rw [iter_chain (σ := Bool × Bool × Int × Int) (τ := Bool × Bool × Int) (s0 := (false,false,w64 (r.2.2.2.2.1 + r.2.2.2.2.2.1),0)) (fun k => match k with
    | 0 => (false,false,w64 (r.2.2.2.2.1 + r.2.2.2.2.2.1),0)
    | 1 => (lngB t p r a,relB t y p a,w64 (w64 (w64 (r.2.2.2.2.1 + r.2.2.2.2.2.1) + (lstT t p a).2.2.2.1) - (fstT t p a).2.2.1),1)
    | _ + 2 => (lngB t p r a || lngB t p r b,relB t y p a || relB t y p b,w64 (w64 (w64 (w64 (w64 (r.2.2.2.2.1 + r.2.2.2.2.2.1) + (lstT t p a).2.2.2.1) - (fstT t p a).2.2.1) + (lstT t p b).2.2.2.1) - (fstT t p b).2.2.1),2)) 2 (lngB t p r a || lngB t p r b,relB t y p a || relB t y p b,w64 (w64 (w64 (w64 (w64 (r.2.2.2.2.1 + r.2.2.2.2.2.1) + (lstT t p a).2.2.2.1) - (fstT t p a).2.2.1) + (lstT t p b).2.2.2.1) - (fstT t p b).2.2.1)) rfl (by simp only [big]; omega) (fun i hi => by
      have:i = 0 ∨ i = 1 := by omega
      rcases this with rfl | rfl
      · exact hs
      · exact hs2) (by simp only [hl]; rfl)]
  have hw:w64 (w64 (w64 (w64 (w64 (r.2.2.2.2.1 + r.2.2.2.2.2.1) + (lstT t p a).2.2.2.1) - (fstT t p a).2.2.1) + (lstT t p b).2.2.2.1) - (fstT t p b).2.2.1) = r.2.2.2.2.1 + r.2.2.2.2.2.1 + lasI t p a + lasI t p b := by
    unfold lasI fstT lstT
    rw [zn (n := r.2.2.2.2.1 + r.2.2.2.2.2.1) (by omega) (by omega),zn (n := r.2.2.2.2.1 + r.2.2.2.2.2.1 + _) (by omega) (by omega),zn (n := r.2.2.2.2.1 + r.2.2.2.2.2.1 + _ - _) (by omega) (by omega),zn (n := r.2.2.2.2.1 + r.2.2.2.2.2.1 + _ - _ + _) (by omega) (by omega),zn (by omega) (by omega)]
    omega
  have hw4:w64 ((fstT t p b).2.2.1 - (lstT t p a).2.2.2.1) = (fstT t p b).2.2.1 - (lstT t p a).2.2.2.1 := by
    unfold fstT lstT
    exact zn (by omega) (by omega)
  have hord:(cond (decide ((fstT t p b).2.2.1 < (lstT t p a).2.2.2.1)) (some true) (some (decide (dstB t y p a b < 0))):Option Bool) = some (ordB t y p a b) := by
    unfold ordB
    rw [hw4]
    by_cases h:(fstT t p b).2.2.1 < (lstT t p a).2.2.2.1
    · rw [decide_eq_true h,decide_eq_true (show (fstT t p b).2.2.1 - (lstT t p a).2.2.2.1 < 0 by omega)]; rfl
    · rw [decide_eq_false h,decide_eq_false (show ¬ (fstT t p b).2.2.1 - (lstT t p a).2.2.2.1 < 0 by omega)]; rfl
  have hd1:idx y.1 (lstT t p a).2.1 = some (y.1.getD (lstT t p a).2.1.toNat []) := zj (by unfold lstT; omega) (by rw [hrow.2]; unfold lstT; omega)
  have hd2:idx (y.1.getD (lstT t p a).2.1.toNat []) (fstT t p b).1 = some (dstB t y p a b) := zj (by unfold fstT; omega) (by rw [hrow.1]; unfold fstT; omega)
  simp only [Option.bind_some,hl,hx,hx1,zi18 ha,zi18 hb,hw,show ((2:Int) == 2) = true from rfl,cond_true,hd1,hd2,hord]
  unfold spnB brkB
  generalize decide (w64 (w64 (w64 ((lstT t p b).2.2.2.1 - (fstT t p a).2.2.1) + r.2.2.2.2.1) + r.2.2.2.2.2.1) > r.2.1) = b5
  generalize decide (r.2.2.2.2.1 + r.2.2.2.2.2.1 + lasI t p a + lasI t p b > r.2.2.1) = b6
  generalize decide (w64 ((fstT t p b).2.2.1 - (lstT t p a).2.2.2.1) < w64 (r.2.2.2.1 + dstB t y p a b)) = b4
  generalize ordB t y p a b = b3
  generalize (lngB t p r a || lngB t p r b) = b1
  generalize (relB t y p a || relB t y p b) = b2
  cases b1 <;> cases b2 <;> cases b3 <;> cases b4 <;> cases b5 <;> cases b6 <;> rfl
end Go.Ai.Sx.Du

/- The duties: the list of the rules that a duty breaks,in the program; and the law. -/
namespace Go.Ai.Sx.Du
theorem zv11 {xs:List DutyPiece} {p:DutyPiece → Option Bool} {q:DutyPiece → Bool} (hl:xs.length < 4611686018427387904) (hp:∀ x ∈ xs,p x = some (q x)):zo xs p = some (xs.any q) := by
 unfold zo zd1
 rw [zw6 xs.length (fun i => if h:i < xs.length then (if q xs[i] then some (i:Int) else none) else none) (Nat.lt_trans hl (by decide))]
 ·simp only [Option.bind_some]
  cases hf:(List.range xs.length).findSome? (fun i => if h:i < xs.length then (if q xs[i] then some (i:Int) else none) else none) with
  | none =>
   simp only [zg5,Option.bind_some]
   rw [List.findSome?_eq_none_iff] at hf
   simp only [show decide ((-1:Int) ≥ 0) = false from rfl]
   congr 1
   symm
   rw [List.any_eq_false]
   intro x hx
   obtain ⟨i,hi,rfl⟩ := List.getElem_of_mem hx
   have := hf i (by simpa using hi)
   rw [dif_pos hi] at this
   intro hq
   rw [if_pos hq] at this
   cases this
  | some r =>
   simp only [zy5,Option.bind_some]
   obtain ⟨i,hi,h2⟩ := List.exists_of_findSome?_eq_some hf
   simp only [List.mem_range] at hi
   rw [dif_pos hi] at h2
   split at h2
   ·cases h2
    rename_i hq
    rw [decide_eq_true (show (i:Int) ≥ 0 by omega)]
    congr 1
    symm
    exact List.any_eq_true.2 ⟨_,List.getElem_mem hi,hq⟩
   ·cases h2
 ·intro i hi
  have hw2:w64 ((i:Int) + 1) = i + 1 := zn (by omega) (by omega)
  have:decide ((i:Int) < lenI xs) = true := decide_eq_true (by simp only [zh]; omega)
  simp only [this,cond_true,ze9 hi,Option.bind_some,hp _ (List.getElem_mem hi),hw2,dif_pos hi]
  cases q xs[i] <;> rfl
 ·have:decide ((xs.length:Int) < lenI xs) = false := decide_eq_false (by simp only [zh]; omega)
  simp only [this,cond_false]
section
variable {t:List Task} {y:Yard} {p:List (List Int)} {r:WorkRules} {d:Duty} {a b x:DutyPiece}
theorem zu12 (h:PieceI t p x):zq3 ((t,y,()),p,r,()) x = some (w64 ((lstT t p x).2.2.2.1 - (fstT t p x).2.2.1)) := by
 unfold zq3
 simp only [zt12 h,zj18 h,Option.bind_some]
theorem zq28 (h:PieceI t p x):zh3 x ((t,y,()),p,r,()) = some (lngB t p r x) := by
 unfold zh3
 simp only [zu12 h,Option.bind_some]
 rfl
theorem zm24 (hf:fine t y = true) (h:PieceI t p x):zv2 x ((t,y,()),p,r,()) = some (relB t y p x) := by
 have h1 := (fine_task hf (i := ((p.getD x.1.toNat []).getD x.2.1.toNat 0).toNat) (by have := h.f; unfold InR at this; omega)).1
 have h2 := (fine_task hf (i := ((p.getD x.1.toNat []).getD x.2.2.1.toNat 0).toNat) (by have := h.l; unfold InR at this; omega)).2
 unfold zv2
 simp only [zt12 h,zj18 h,Option.bind_some,zj (d := ([]:List Int)) h.car.1 h.car.2,zj (d := false) (show 0 ≤ (fstT t p x).1 from h1.1) (show (fstT t p x).1 < y.2.2.1.length from h1.2),zj (d := false) (show 0 ≤ (lstT t p x).2.1 from h2.1) (show (lstT t p x).2.1 < y.2.2.1.length from h2.2)]
 unfold relB
 generalize y.2.2.1.getD (fstT t p x).1.toNat false = a1
 generalize y.2.2.1.getD (lstT t p x).2.1.toNat false = a2
 generalize decide (x.2.1 > 0) = a3
 generalize decide (x.2.2.1 < w64 (lenI (p.getD x.1.toNat []) - 1)) = a4
 cases a1 <;> cases a2 <;> cases a3 <;> cases a4 <;> rfl
theorem zc23 (hl:d.1.length < 1000) (h:∀ x ∈ d.1,PieceI t p x):zn2 ((t,y,()),p,r,()) d = some (d.1.any (lngB t p r)) := by
 unfold zn2
 rw [zv11 (q := lngB t p r) (by omega) fun x hx => zq28 (h x hx)]
 rfl
theorem zl20 (hf:fine t y = true) (hl:d.1.length < 1000) (h:∀ x ∈ d.1,PieceI t p x):zh2 ((t,y,()),p,r,()) d = some (d.1.any (relB t y p)) := by
 unfold zh2
 rw [zv11 (q := relB t y p) (by omega) fun x hx => zm24 hf (h x hx)]
 rfl
theorem zu16 (hf:fine t y = true) (hd:d.1 = [a,b]) (ha:PieceI t p a) (hb:PieceI t p b):zi3 ((t,y,()),p,r,()) d = some (w64 ((fstT t p b).2.2.1 - (lstT t p a).2.2.2.1),dstB t y p a b) := by
 have la := ha.l
 have fb := hb.f
 unfold InR at la fb
 have k1 := (fine_task hf (i := ((p.getD a.1.toNat []).getD a.2.2.1.toNat 0).toNat) (by omega)).2
 have k2 := (fine_task hf (i := ((p.getD b.1.toNat []).getD b.2.1.toNat 0).toNat) (by omega)).1
 have hrow := zr12 hf (i := (lstT t p a).2.1.toNat) (by unfold lstT; omega)
 have hx:idx d.1 0 = some a := by rw [hd]; rfl
 have hx1:idx d.1 1 = some b := by rw [hd]; rfl
 have hd1:idx y.1 (lstT t p a).2.1 = some (y.1.getD (lstT t p a).2.1.toNat []) := zj (by unfold lstT; omega) (by rw [hrow.2]; unfold lstT; omega)
 have hd2:idx (y.1.getD (lstT t p a).2.1.toNat []) (fstT t p b).1 = some (dstB t y p a b) := zj (by unfold fstT; omega) (by rw [hrow.1]; unfold fstT; omega)
 unfold zi3
 simp only [hx,hx1,zj18 ha,zt12 hb,hd1,hd2,Option.bind_some]
theorem zr28 (hd:d.1 = [a]):zr1 ((t,y,()),p,r,()) d = some false := by
 unfold zr1
 rw [show (lenI d.1 == 1) = true by rw [hd]; rfl]
 rfl
theorem zm20 (hf:fine t y = true) (hd:d.1 = [a,b]) (ha:PieceI t p a) (hb:PieceI t p b):zr1 ((t,y,()),p,r,()) d = some (ordB t y p a b) := by
 unfold zr1
 rw [show (lenI d.1 == 1) = false by rw [hd]; rfl,zu16 hf hd ha hb]
 unfold ordB
 simp only [Option.bind_some,cond_false]
 cases decide (w64 ((fstT t p b).2.2.1 - (lstT t p a).2.2.2.1) < 0) <;> rfl
theorem zs28 (hd:d.1 = [a]):zv1 ((t,y,()),p,r,()) d = some false := by
 unfold zv1
 rw [show (lenI d.1 == 1) = true by rw [hd]; rfl]
 rfl
theorem zt28 (hf:fine t y = true) (hd:d.1 = [a,b]) (ha:PieceI t p a) (hb:PieceI t p b):zv1 ((t,y,()),p,r,()) d = some (!ordB t y p a b && brkB t y p r a b) := by
 unfold zv1
 rw [show (lenI d.1 == 1) = false by rw [hd]; rfl,zu16 hf hd ha hb,zm20 hf hd ha hb]
 unfold brkB
 simp only [Option.bind_some,cond_false]
 cases ordB t y p a b <;> rfl
theorem zu28 {l:DutyPiece} (h0:idx d.1 0 = some a) (h1:idx d.1 (w64 (lenI d.1 - 1)) = some l) (ha:PieceI t p a) (hl:PieceI t p l):zx2 ((t,y,()),p,r,()) d = some (spnB t p r a l) := by
 unfold zx2 ze5
 simp only [h0,h1,zj18 hl,zt12 ha,Option.bind_some]
 rfl
theorem zv28 (hf:fine t y = true) (h:PieceI t p x):w64 ((lstT t p x).2.2.2.1 - (fstT t p x).2.2.1) = lasI t p x ∧ -200000 ≤ lasI t p x ∧ lasI t p x ≤ 200000 := by
 have fa := h.f
 have la := h.l
 unfold InR at fa la
 have t1 := zd6 hf (i := ((p.getD x.1.toNat []).getD x.2.1.toNat 0).toNat) (by omega)
 have t2 := zd6 hf (i := ((p.getD x.1.toNat []).getD x.2.2.1.toNat 0).toNat) (by omega)
 unfold lasI fstT lstT
 exact ⟨zn (by omega) (by omega),by omega,by omega⟩
theorem zc32 (hf:fine t y = true) (hr:rulesB r = true) (hd:d.1 = [a]) (ha:PieceI t p a):zb2 ((t,y,()),p,r,()) d = some (decide (r.2.2.2.2.1 + r.2.2.2.2.2.1 + lasI t p a > r.2.2.1)) := by
 have hri := zs12 hr
 have l1 := zv28 hf ha
 have hl:lenI d.1 = 1 := by rw [hd]; rfl
 have hx:idx d.1 0 = some a := by rw [hd]; rfl
 have w0:w64 (r.2.2.2.2.1 + r.2.2.2.2.2.1) = r.2.2.2.2.1 + r.2.2.2.2.2.1 := zn (by omega) (by omega)
 have w1:w64 (r.2.2.2.2.1 + r.2.2.2.2.2.1 + lasI t p a) = r.2.2.2.2.1 + r.2.2.2.2.2.1 + lasI t p a := zn (by omega) (by omega)
 unfold zb2
 simp only [w0]
 rw [iter_chain (σ := Int × Int) (τ := Int) (s0 := (r.2.2.2.2.1 + r.2.2.2.2.2.1,0)) (fun k => match k with
  | 0 => (r.2.2.2.2.1 + r.2.2.2.2.2.1,0)
  | _ + 1 => (r.2.2.2.2.1 + r.2.2.2.2.2.1 + lasI t p a,1)) 1 (r.2.2.2.2.1 + r.2.2.2.2.2.1 + lasI t p a) rfl (by simp only [big]; omega) (fun i hi => by
   have:i = 0 := by omega
   subst this
   simp only [hl,hx,zu12 ha,l1.1,w1,Option.bind_some]
   rfl) (by simp only [hl]; rfl)]
 rfl
theorem zd32 (hf:fine t y = true) (hr:rulesB r = true) (hd:d.1 = [a,b]) (ha:PieceI t p a) (hb:PieceI t p b):zb2 ((t,y,()),p,r,()) d = some (decide (r.2.2.2.2.1 + r.2.2.2.2.2.1 + lasI t p a + lasI t p b > r.2.2.1)) := by
 have hri := zs12 hr
 have l1 := zv28 hf ha
 have l2 := zv28 hf hb
 have hl:lenI d.1 = 2 := by rw [hd]; rfl
 have hx:idx d.1 0 = some a := by rw [hd]; rfl
 have hx1:idx d.1 1 = some b := by rw [hd]; rfl
 have w0:w64 (r.2.2.2.2.1 + r.2.2.2.2.2.1) = r.2.2.2.2.1 + r.2.2.2.2.2.1 := zn (by omega) (by omega)
 have w1:w64 (r.2.2.2.2.1 + r.2.2.2.2.2.1 + lasI t p a) = r.2.2.2.2.1 + r.2.2.2.2.2.1 + lasI t p a := zn (by omega) (by omega)
 have w2:w64 (r.2.2.2.2.1 + r.2.2.2.2.2.1 + lasI t p a + lasI t p b) = r.2.2.2.2.1 + r.2.2.2.2.2.1 + lasI t p a + lasI t p b := zn (by omega) (by omega)
 unfold zb2
 simp only [w0]
 rw [iter_chain (σ := Int × Int) (τ := Int) (s0 := (r.2.2.2.2.1 + r.2.2.2.2.2.1,0)) (fun k => match k with
  | 0 => (r.2.2.2.2.1 + r.2.2.2.2.2.1,0)
  | 1 => (r.2.2.2.2.1 + r.2.2.2.2.2.1 + lasI t p a,1)
  | _ + 2 => (r.2.2.2.2.1 + r.2.2.2.2.2.1 + lasI t p a + lasI t p b,2)) 2 (r.2.2.2.2.1 + r.2.2.2.2.2.1 + lasI t p a + lasI t p b) rfl (by simp only [big]; omega) (fun i hi => by
   have:i = 0 ∨ i = 1 := by omega
   rcases this with rfl | rfl
   ·simp only [hl,hx,zu12 ha,l1.1,w1,Option.bind_some]
    rfl
   ·simp only [hl,hx1,zu12 hb,l2.1,w2,Option.bind_some]
    rfl) (by simp only [hl]; rfl)]
 rfl
theorem zn14 {b1 b2 b3 b4 b5 b6:Bool} {c:ze2} (h1:zn2 c d = some b1) (h2:zh2 c d = some b2) (h3:zr1 c d = some b3) (h4:zv1 c d = some b4) (h5:zx2 c d = some b5) (h6:zb2 c d = some b6) :
    zt2 c d = some (fl b1 b2 b3 b4 b5 b6) := by
  unfold zt2
  rw [iter_chain (σ := List Int × Int) (τ := List Int) (s0 := ([],0)) (fun k => match k with
    | 0 => ([],0)
    | 1 => (cond b1 [1] [],1)
    | 2 => (cond b1 [1] [] ++ cond b2 [2] [],2)
    | 3 => (cond b1 [1] [] ++ cond b2 [2] [] ++ cond b3 [3] [],3)
    | 4 => (cond b1 [1] [] ++ cond b2 [2] [] ++ cond b3 [3] [] ++ cond b4 [4] [],4)
    | 5 => (cond b1 [1] [] ++ cond b2 [2] [] ++ cond b3 [3] [] ++ cond b4 [4] [] ++ cond b5 [5] [],5)
    | _ + 6 => (fl b1 b2 b3 b4 b5 b6,6)) 6 (fl b1 b2 b3 b4 b5 b6) rfl (by simp only [big]; omega) (fun i hi => by
      have:i = 0 ∨ i = 1 ∨ i = 2 ∨ i = 3 ∨ i = 4 ∨ i = 5 := by omega
      rcases this with rfl | rfl | rfl | rfl | rfl | rfl
      · show cond (decide ((0:Int) < 6)) (Option.bind (zn2 c d) _) _ = _
        rw [h1]; cases b1 <;> rfl
      · show cond (decide ((1:Int) < 6)) (Option.bind (zh2 c d) _) _ = _
        rw [h2]; cases b1 <;> cases b2 <;> rfl
      · show cond (decide ((2:Int) < 6)) (Option.bind (zr1 c d) _) _ = _
        rw [h3]; cases b1 <;> cases b2 <;> cases b3 <;> rfl
      · show cond (decide ((3:Int) < 6)) (Option.bind (zv1 c d) _) _ = _
        rw [h4]; cases b1 <;> cases b2 <;> cases b3 <;> cases b4 <;> rfl
      · show cond (decide ((4:Int) < 6)) (Option.bind (zx2 c d) _) _ = _
        rw [h5]; cases b1 <;> cases b2 <;> cases b3 <;> cases b4 <;> cases b5 <;> rfl
      · show cond (decide ((5:Int) < 6)) (Option.bind (zb2 c d) _) _ = _
        rw [h6]; cases b1 <;> cases b2 <;> cases b3 <;> cases b4 <;> cases b5 <;> cases b6 <;> rfl) rfl]
  rfl
theorem zw28 (hf:fine t y = true) (hr:rulesB r = true) (hn:1 ≤ d.1.length ∧ d.1.length ≤ 2) (h:∀ x ∈ d.1,PieceI t p x):∃ l:List Int,zt2 ((t,y,()),p,r,()) d = some l ∧ zl4 t y p r d = some l ∧ l.length ≤ 6 := by
 have hfl:∀ b1 b2 b3 b4 b5 b6:Bool,(fl b1 b2 b3 b4 b5 b6).length ≤ 6 := by decide
 match hd:d.1,hn with
 | [a],_ =>
  have ha := h a (by rw [hd]; simp)
  have e1 := zc23 (y := y) (r := r) (by omega) h
  have e2 := zl20 (r := r) hf (by omega) h
  simp only [hd,List.any_cons,List.any_nil,Bool.or_false] at e1 e2
  exact ⟨_,zn14 e1 e2 (zr28 hd) (zs28 hd) (zu28 (a := a) (l := a) (by rw [hd]; rfl) (by rw [hd]; rfl) ha ha) (zc32 hf hr hd ha),zm14 hf hr hd ha,hfl _ _ _ _ _ _⟩
 | [a,b],_ =>
  have ha := h a (by rw [hd]; simp)
  have hb := h b (by rw [hd]; simp)
  have e1 := zc23 (y := y) (r := r) (by omega) h
  have e2 := zl20 (r := r) hf (by omega) h
  simp only [hd,List.any_cons,List.any_nil,Bool.or_false] at e1 e2
  exact ⟨_,zn14 e1 e2 (zm20 hf hd ha hb) (zt28 hf hd ha hb) (zu28 (a := a) (l := b) (by rw [hd]; rfl) (by rw [hd]; rfl) ha hb) (zd32 hf hr hd ha hb),zr21 hf hr hd ha hb,hfl _ _ _ _ _ _⟩
end
end Go.Ai.Sx.Du

/- The law: which rules a duty breaks. -/
namespace Go.Ai.Sx.Du
theorem crewed_eq {t:List Task} {y:Yard} {p:List (List Int)} {r:WorkRules} (hF:Few t y) (hp:p.length ≤ 80) (hrow:∀ r ∈ p,r.length ≤ 80) :
    ∃ b,zt4 t y p r = some (if b then (some ((t,y,()),p,r,()),true) else (none,false)) ∧ (b = true → fine t y = true ∧ rulesB r = true ∧ PlanOk t p) ∧
      (Option.bind (zr4 t y) fun y23 => cond (!y23) (some true) (Option.bind (zf7 t y p) fun y25 => cond (!y25) (some true) (Option.bind (zd8 r) fun y27 => cond (!y27) (some true) (some false)))) = some (!b) := by
  unfold zt4
  rw [zw22 t y hF,fine_eq t y hF]
  cases hf:fine t y with
  | false => exact ⟨false,rfl,fun h => (by cases h),rfl⟩
  | true =>
    obtain ⟨b,h1,h2,h3⟩ := plan_eq hF hf hp hrow
    simp only [if_true,Option.bind_some,h1,h2,zl24,rules_ref]
    cases b with
    | false => exact ⟨false,rfl,fun h => (by cases h),rfl⟩
    | true =>
      cases hr:rulesB r with
      | false => exact ⟨false,rfl,fun h => (by cases h),rfl⟩
      | true => exact ⟨true,rfl,fun _ => ⟨by trivial,by trivial,h3 rfl⟩,rfl⟩
end Go.Ai.Sx.Du

/- The duties: loops as folds; the times along a row; the list of the pieces. -/
namespace Go.Ai.Sx.Du
theorem zt8 {S σ τ:Type} {f:S → Option (S ⊕ τ)} (mk:Nat → σ → S) (st:Nat → σ → σ) (N:Nat) (I:Nat → σ → Prop) (c:σ) (fin:σ → τ) {s0:S} (hs:mk 0 c = s0) (hN:N < big) (h0:I 0 c)
    (hf:∀ i c,i < N → I i c → f (mk i c) = some (.inl (mk (i + 1) (st i c))) ∧ I (i + 1) (st i c)) (he:∀ c,I N c → f (mk N c) = some (.inr (fin c))):iter f big s0 = some (fin ((List.range N).foldl (fun c i => st i c) c)) := by
  have hI:∀ i,i ≤ N → I i ((List.range i).foldl (fun c i => st i c) c) := by
    intro i
    induction i with
    | zero => intro _; exact h0
    | succ i ih =>
      intro h
      rw [List.range_succ,List.foldl_append]
      exact (hf i _ (by omega) (ih (by omega))).2
  refine iter_chain (fun i => mk i ((List.range i).foldl (fun c i => st i c) c)) N _ hs hN (fun i hi => ?_) (he _ (hI N (Nat.le_refl N)))
  rw [(hf i _ hi (hI i (by omega))).1,List.range_succ,List.foldl_append]
  rfl
theorem zl18 {X:Type} (g:Nat → List X) (N:Nat) (c:List X):(List.range N).foldl (fun c i => c ++ g i) c = c ++ (List.range N).flatMap g := by
 induction N with
 | zero => simp
 | succ N ih => rw [List.range_succ,List.foldl_append,ih,List.flatMap_append,← List.append_assoc]; simp
theorem zm18 {X:Type} {g:Nat → List X} {N B:Nat} (h:∀ i,i < N → (g i).length ≤ B):((List.range N).flatMap g).length ≤ N * B := by
 induction N with
 | zero => simp
 | succ N ih =>
  rw [List.range_succ,List.flatMap_append,List.length_append,Nat.succ_mul]
  have := ih fun i hi => h i (by omega)
  have h2 := h N (by omega)
  simp only [List.flatMap_singleton]
  omega
structure PcOk (t:List Task) (y:Yard) (p:List (List Int)) (x:DutyPiece):Prop where
 i:PieceI t p x
 le:x.2.1 ≤ x.2.2.1
 ch:chainB (follB t y) (p.getD x.1.toNat []) (p.getD x.1.toNat []).length
 rng:∀ z ∈ p.getD x.1.toNat [],InR t.length z
def pcR (i a len:Nat):List DutyPiece := (List.range (len - a)).flatMap fun d => [((i:Int),(a:Int),((a + d:Nat):Int),())]
def pcC (i len:Nat):List DutyPiece := (List.range len).flatMap fun a => pcR i a len
def pcs (p:List (List Int)):List DutyPiece := (List.range p.length).flatMap fun i => pcC i (p.getD i []).length
theorem zx28 (i a len:Nat):(pcR i a len).length ≤ len := by
 have := zm18 (g := fun d => [(((i:Int),(a:Int),((a + d:Nat):Int),()):DutyPiece)]) (N := len - a) (B := 1) (fun _ _ => Nat.le_refl 1)
 unfold pcR
 omega
theorem zy28 {i len:Nat} (h:len ≤ 80):(pcC i len).length ≤ 6400 := by
 have := zm18 (g := fun a => pcR i a len) (N := len) (B := len) (fun a _ => zx28 i a len)
 have h2:len * len ≤ 80 * 80 := Nat.mul_le_mul h h
 unfold pcC
 omega
theorem zr35 {p:List (List Int)} (hp:p.length ≤ 80) (hrow:∀ r ∈ p,r.length ≤ 80):(pcs p).length ≤ 512000 := by
 have := zm18 (g := fun i => pcC i (p.getD i []).length) (N := p.length) (B := 6400) (fun i hi => zy28 (hrow _ (zj1 hi)))
 have h2:p.length * 6400 ≤ 80 * 6400 := Nat.mul_le_mul_right _ hp
 unfold pcs
 omega
theorem zs35 {p:List (List Int)} {x:DutyPiece}:x ∈ pcs p ↔ (0 ≤ x.1 ∧ x.1 < p.length) ∧ 0 ≤ x.2.1 ∧ x.2.1 ≤ x.2.2.1 ∧ x.2.2.1 < (p.getD x.1.toNat []).length := by
 unfold pcs pcC pcR
 simp only [List.mem_flatMap,List.mem_range,List.mem_singleton]
 constructor
 ·rintro ⟨i,hi,a,ha,d,hd,rfl⟩
  simp only [Int.toNat_natCast]
  omega
 ·obtain ⟨c,a,b,u⟩ := x
  simp only []
  intro h
  refine ⟨c.toNat,by omega,a.toNat,by omega,(b - a).toNat,by omega, ?_⟩
  have e1:(c.toNat:Int) = c := by omega
  have e2:(a.toNat:Int) = a := by omega
  have e3:((a.toNat + (b - a).toNat:Nat):Int) = b := by omega
  rw [e1,e2,e3]
theorem ze32 {t:List Task} {y:Yard} {p:List (List Int)} (hs:PlanS t y p) {x:DutyPiece} (h:x ∈ pcs p):PcOk t y p x := by
 have h := zs35.1 h
 have hm:p.getD x.1.toNat [] ∈ p := zj1 (by omega)
 have hr:∀ z ∈ p.getD x.1.toNat [],InR t.length z := fun z hz => hs.rng z (List.mem_flatten.2 ⟨_,hm,hz⟩)
 exact ⟨⟨by omega,by omega,by omega,hr _ (zj1 (by omega)),hr _ (zj1 (by omega))⟩,by omega,hs.ch _ hm,hr⟩
theorem zn38 {i a:Nat} {row:List Int} {s0:List DutyPiece} {L:Int} (hL:lenI row = L) (hr:row.length ≤ 80) (ha:a ≤ row.length) (hs:s0.length ≤ 1000000) :
    iter (σ := ((List DutyPiece) × Int)) (τ := ((List DutyPiece))) (fun s96 =>
cond ((decide (s96.2 < L))) (Option.bind (appO 24 s96.1 ([(((i:Int),(a:Int),s96.2,()):DutyPiece)])) fun x102 =>
some (.inl ((x102,(w64 (s96.2 + 1)))))) (some (.inr s96.1))) big ((s0,(a:Int))) = some (s0 ++ pcR i a row.length) := by
  subst hL
  rw [zt8 (s0 := (s0,(a:Int))) (fun k c => (c,((a + k:Nat):Int))) (fun k c => c ++ [(((i:Int),(a:Int),((a + k:Nat):Int),()):DutyPiece)]) (row.length - a) (fun k c => c.length ≤ 1000000 + k) s0 id rfl (by simp only [big]; omega) (by omega)]
  · simp only [id]
    rw [zl18 (fun k => [(((i:Int),(a:Int),((a + k:Nat):Int),()):DutyPiece)])]
    rfl
  · intro k c hk hc
    have hw:w64 (((a + k:Nat):Int) + 1) = ((a + (k + 1):Nat):Int) := by rw [zn (by omega) (by omega)]; omega
    refine ⟨?_,by rw [List.length_append,List.length_singleton]; omega⟩
    simp only [decide_eq_true (show ((a + k:Nat):Int) < lenI row by rw [zh]; omega),cond_true]
    rw [zp2 (by simp only [List.length_singleton]; omega),Option.bind_some,hw]
  · intro c _
    simp only [decide_eq_false (show ¬ ((a + (row.length - a):Nat):Int) < lenI row by rw [zh]; omega),cond_false,id]
theorem zo38 {i:Nat} {row:List Int} {s0:List DutyPiece} (hr:row.length ≤ 80) (hs:s0.length ≤ 600000) :
    iter (σ := ((List DutyPiece) × Int)) (τ := ((List DutyPiece))) (fun s85 =>
cond ((decide (s85.2 < (lenI row)))) (Option.bind (iter (σ := ((List DutyPiece) × Int)) (τ := ((List DutyPiece))) (fun s96 =>
cond ((decide (s96.2 < (lenI row)))) (Option.bind (appO 24 s96.1 ([(((i:Int),s85.2,s96.2,()):DutyPiece)])) fun x102 =>
some (.inl ((x102,(w64 (s96.2 + 1)))))) (some (.inr s96.1))) big ((s85.1,s85.2))) fun t106 =>
some (.inl ((t106,(w64 (s85.2 + 1)))))) (some (.inr s85.1))) big ((s0,0)) = some (s0 ++ pcC i row.length) := by
  rw [zt8 (s0 := (s0,(0:Int))) (fun k c => (c,(k:Int))) (fun k c => c ++ pcR i k row.length) row.length (fun k c => c.length ≤ 600000 + k * 80) s0 id rfl (by simp only [big]; omega) (by omega)]
  · simp only [id]
    rw [zl18 (fun k => pcR i k row.length)]
    rfl
  · intro k c hk hc
    have hw:w64 ((k:Int) + 1) = ((k + 1:Nat):Int) := by rw [zn (by omega) (by omega)]; omega
    have hl := zx28 i k row.length
    refine ⟨?_,by rw [List.length_append]; omega⟩
    simp only [decide_eq_true (show (k:Int) < lenI row by rw [zh]; omega),cond_true]
    rw [zn38 rfl hr (by omega) (by omega),Option.bind_some,hw]
  · intro c _
    simp only [decide_eq_false (show ¬ (row.length:Int) < lenI row by rw [zh]; omega),cond_false,id]
theorem pc_all {p:List (List Int)} (hp:p.length ≤ 80) (hrow:∀ r ∈ p,r.length ≤ 80) :
    iter (σ := ((List DutyPiece) × Int)) (τ := ((List DutyPiece))) (fun s57 =>
cond ((decide (s57.2 < (lenI p)))) (Option.bind (idx p s57.2) fun x63 =>
Option.bind (iter (σ := ((List DutyPiece) × Int)) (τ := ((List DutyPiece))) (fun s85 =>
cond ((decide (s85.2 < (lenI x63)))) (Option.bind (iter (σ := ((List DutyPiece) × Int)) (τ := ((List DutyPiece))) (fun s96 =>
cond ((decide (s96.2 < (lenI x63)))) (Option.bind (appO 24 s96.1 ([((s57.2,s85.2,s96.2,()):DutyPiece)])) fun x102 =>
some (.inl ((x102,(w64 (s96.2 + 1)))))) (some (.inr s96.1))) big ((s85.1,s85.2))) fun t106 =>
some (.inl ((t106,(w64 (s85.2 + 1)))))) (some (.inr s85.1))) big ((s57.1,0))) fun t111 =>
some (.inl ((t111,(w64 (s57.2 + 1)))))) (some (.inr s57.1))) big (([],0)) = some (pcs p) := by
  rw [zt8 (s0 := (([]:List DutyPiece),(0:Int))) (fun k c => (c,(k:Int))) (fun k c => c ++ pcC k (p.getD k []).length) p.length (fun k c => c.length ≤ k * 6400) [] id rfl (by simp only [big]; omega) (by simp)]
  · simp only [id]
    rw [zl18 (fun k => pcC k (p.getD k []).length)]
    rfl
  · intro k c hk hc
    have hw:w64 ((k:Int) + 1) = ((k + 1:Nat):Int) := by rw [zn (by omega) (by omega)]; omega
    have hl := hrow _ (zj1 (d := []) hk)
    have hl2 := zy28 (i := k) hl
    refine ⟨?_,by rw [List.length_append]; omega⟩
    simp only [decide_eq_true (show (k:Int) < lenI p by rw [zh]; omega),cond_true,zp1 [] hk,Option.bind_some]
    rw [zo38 hl (by omega),Option.bind_some,hw]
  · intro c _
    simp only [decide_eq_false (show ¬ (p.length:Int) < lenI p by rw [zh]; omega),cond_false,id]
theorem zz28 {t:List Task} {y:Yard} {p:List (List Int)} {r:WorkRules} (hp:p.length ≤ 80) (hrow:∀ r ∈ p,r.length ≤ 80):zy3 ((t,y,()),p,r,()) = some (pcs p) := by
 unfold zy3
 simp only []
 rw [pc_all hp hrow]
 rfl
end Go.Ai.Sx.Du

/- The duties: the reference's search for a matching,beside the program's. -/
namespace Go.Ai.Sx.Du
section
variable {n:Nat}
structure AI (n:Nat) (mt:List Int):Prop where
 l:mt.length = n
 r:∀ b,InR n b → mb mt b < n
structure AG (n:Nat) (c:Nat) (sn:List Bool) (mt:List Int):Prop where
 l:sn.length = n
 m:AI n mt
 c:cntF sn ≤ c
end
end Go.Ai.Sx.Du

/- The duties: the reference's greatest number of links,beside the program's. -/
namespace Go.Ai.Sx.Du
section
variable {n:Nat}
end
end Go.Ai.Sx.Du

/- The duties: the followers are the reference's. -/
namespace Go.Ai.Sx.Du
section
variable {n:Nat}
structure FR (n:Nat) (M:Int) (F:List Int) (a:Int) (s':Int × Int × List Int × List Bool):Prop where
 l:(F.length:Int) = a
 a':s'.2.1 = a
 hi:a ≤ n
 rng:∀ x ∈ F,0 ≤ x ∧ x ≤ n
 need:s'.1 = M - cntR n F
 ol:s'.2.2.1.length = n
 o:∀ i:Nat,(i:Int) < a → s'.2.2.1.getD i 0 = F.getD i 0
 us:Usd n F s'.2.2.2
theorem za29 {F:List Int} {used:List Bool} (h:Usd n F used):Usd n (F ++ [(n:Int)]) used := by
 refine ⟨h.l,fun x hx => ?_⟩
 rw [List.mem_append,List.mem_singleton,← h.u x hx]
 unfold InR at hx
 constructor
 ·exact .inl
 ·rintro (q | q)
  ·exact q
  ·omega
theorem zn24 {F:List Int}:cntR n (F ++ [(n:Int)]) = cntR n F := by
 unfold cntR; rw [List.countP_append]; simp
theorem zn20 {l:List Int} {i:Nat} {v d:Int} {j:Nat} (hi:i < l.length):(l.set i v).getD j d = if i = j then v else l.getD j d := by
 simp only [List.getD,List.getElem?_set]
 by_cases e:i = j
 ·subst e; simp [hi]
 ·simp [e]
theorem FR.none {M:Int} {F:List Int} {a need:Int} {out:List Int} {used:List Bool} (h:FR n M F a (need,a,out,used)) (ha:a < n):FR n M (F ++ [(n:Int)]) (a + 1) (need,a + 1,out.set a.toNat n,used) := by
 have hl := h.l
 have hol := h.ol
 have hne := h.need
 simp only [] at hol hne
 refine ⟨by simp; omega,rfl,by omega,fun x hx => ?_,by simp only []; rw [zn24]; exact hne,by simp only [List.length_set]; exact hol,fun i hi => ?_,za29 h.us⟩
 ·rcases List.mem_append.1 hx with hx | hx
  ·exact h.rng x hx
  ·rw [List.mem_singleton.1 hx]; omega
 ·simp only []
  rw [zn20 (by omega)]
  split
  ·rename_i e
   rw [show i = F.length by omega,zf9]
  ·rename_i e
   rw [zr6 (by omega)]
   exact h.o i (by omega)
end
end Go.Ai.Sx.Du

/- The duties: what is reached is the least that is closed; the reference's rounds come to the same. -/
namespace Go.Ai.Sx.Du
section
variable {n:Nat} {g:Int → Int → Bool} {F mt:List Int}
structure Clo (n:Nat) (g:Int → Int → Bool) (F:List Int) (S T:Int → Prop):Prop where
 a:∀ x,InR n x → fx F x = n → S x
 b:∀ x y,InR n x → InR n y → S x → g x y = true → T y
 c:∀ x y,InR n x → InR n y → fx F x = y → T y → S x
structure In2 (n:Nat) (S T:Int → Prop) (L R:List Bool):Prop where
 ll:L.length = n
 lr:R.length = n
 l:∀ x,InR n x → sb L x = true → S x
 r:∀ x,InR n x → sb R x = true → T x
end
end Go.Ai.Sx.Du

/- The duties: the rounds of the reference's proof. -/
namespace Go.Ai.Sx.Du
section
variable {n:Nat} {g:Int → Int → Bool} {F:List Int}
def cntS (n:Nat) (S:List Bool):Nat := ((List.range n).filter fun i => S.getD i false).length
structure Rnd (n:Nat) (g:Int → Int → Bool) (F:List Int) (S T:Int → Prop) (again:Int) (f s:List Bool):Prop where
 i:In2 n S T f s
 im:∀ x y,InR n x → InR n y → sb f x = true → g x y = true → sb s y = true
 c:Clo n g F (fun x => sb f x = true) (fun x => sb s x = true) ∨ again ≤ cntS n f
end
end Go.Ai.Sx.Du

/- The duties: the plan of cars and its proof are the reference's. -/
namespace Go.Ai.Sx.Du
section
variable {n:Nat} {F:List Int}
end
end Go.Ai.Sx.Du

/- The duties: which pieces and pairs keep the rules; which tasks are covered; and the law. -/
namespace Go.Ai.Sx.Du
section
variable (t:List Task) (y:Yard) (p:List (List Int)) (r:WorkRules)
def F1 (a:DutyPiece):List Int := fl (lngB t p r a) (relB t y p a) false false (spnB t p r a a) (decide (r.2.2.2.2.1 + r.2.2.2.2.2.1 + lasI t p a > r.2.2.1))
def ok1 (a:DutyPiece):Bool := lenI (F1 t y p r a) == 0
end
section
variable {t:List Task} {y:Yard} {p:List (List Int)} {r:WorkRules} {a b:DutyPiece}
theorem zt35 (hf:fine t y = true) (hr:rulesB r = true) (ha:PieceI t p a):zl4 t y p r ([a],()) = some (F1 t y p r a) := zm14 hf hr rfl ha
theorem zf32 (hf:fine t y = true) (hr:rulesB r = true) (ha:PieceI t p a):zt2 ((t,y,()),p,r,()) ([a],()) = some (F1 t y p r a) := by
 obtain ⟨l,h1,h2,_⟩ := zw28 (p := p) (d := ([a],())) hf hr ⟨by simp,by simp⟩ (fun x hx => by rw [List.mem_singleton.1 hx]; exact ha)
 rw [zt35 hf hr ha] at h2
 cases h2
 exact h1
end
section
variable {t:List Task} {y:Yard} {p:List (List Int)} {r:WorkRules}
end
end Go.Ai.Sx.Du

/- The duties: the tasks that cannot be covered; and the law. -/
namespace Go.Ai.Sx.Du
def marks (c:List Bool) (xs:List Int):List Bool := xs.foldl (fun c x => c.set x.toNat true) c
theorem zo14 (c:List Bool) (xs:List Int):(marks c xs).length = c.length := by
 unfold marks
 induction xs generalizing c with
 | nil => rfl
 | cons x xs ih => rw [List.foldl_cons,ih,List.length_set]
theorem zb29 (c:List Bool) (xs ys:List Int):marks c (xs ++ ys) = marks (marks c xs) ys := List.foldl_append
theorem zo24 {X:Type} (g:X → List Int) (l:List X) (c:List Bool):l.foldl (fun c q => marks c (g q)) c = marks c (l.flatMap g) := by
 induction l generalizing c with
 | nil => rfl
 | cons q l ih => rw [List.foldl_cons,ih,List.flatMap_cons,zb29]
theorem zo20 {X σ:Type} (F:σ → X → σ) (d:X) (xs:List X) (c:σ):(List.range xs.length).foldl (fun c i => F c (xs.getD i d)) c = xs.foldl F c := by
 have e:xs = (List.range xs.length).map fun i => xs.getD i d := by
  apply List.ext_getElem (by simp)
  intro i h1 h2
  rw [List.getElem_map,List.getElem_range,zb23 h1]
 conv => rhs; rw [e,List.foldl_map]
def tsk (p:List (List Int)) (q:DutyPiece):List Int := ((p.getD q.1.toNat []).take (q.2.2.1 + 1).toNat).drop q.2.1.toNat
section
variable {n:Nat} {t:List Task} {y:Yard} {p:List (List Int)} {r:WorkRules} {q:DutyPiece}
theorem zu35 (h:PcOk t y p q):(tsk p q).length = (q.2.2.1 + 1 - q.2.1).toNat := by
 have h1 := h.le
 have h2 := h.i.to
 have h3 := h.i.fr
 unfold tsk
 rw [List.length_drop,List.length_take]
 omega
theorem zv35 (h:PcOk t y p q) {x:Int} (hx:x ∈ tsk p q):InR t.length x := h.rng x (List.mem_of_mem_take (List.mem_of_mem_drop hx))
theorem zc29 {xs:List Int} (hx:∀ x ∈ xs,InR n x) (hl:xs.length < 1000) {c:List Bool} (hc:c.length = n) :
    iter (σ := (Int × (List Bool))) (τ := ((List Bool))) (fun s79 =>
cond ((decide (s79.1 < (lenI xs)))) (Option.bind (idx xs s79.1) fun x82 =>
Option.bind (idx s79.2 x82) fun _ =>
some (.inl (((w64 (s79.1 + 1)),(s79.2).set (Int.toNat x82) true)))) (some (.inr s79.2))) big ((0,c)) = some (marks c xs) := by
  rw [zt8 (s0 := ((0:Int),c)) (fun k c => ((k:Int),c)) (fun k c => c.set (xs.getD k 0).toNat true) xs.length (fun _ c => c.length = n) c id rfl (by simp only [big]; omega) hc]
  · simp only [id]
    rw [zo20 (fun (c:List Bool) (x:Int) => c.set x.toNat true) 0 xs c]
    rfl
  · intro k c hk hc
    have hw:w64 ((k:Int) + 1) = ((k + 1:Nat):Int) := by rw [zn (by omega) (by omega)]; omega
    have hm := hx _ (zj1 (d := (0:Int)) hk)
    refine ⟨?_,by rw [List.length_set]; exact hc⟩
    simp only [decide_eq_true (show (k:Int) < lenI xs by rw [zh]; omega),cond_true,zp1 0 hk,Option.bind_some,zj (l := c) (d := false) hm.1 (by have := hm.2; omega),hw]
  · intro c _
    simp only [decide_eq_false (show ¬ (xs.length:Int) < lenI xs by rw [zh]; omega),cond_false,id]
theorem zg32 {c:List Bool} (hc:c.length = n) (hn:n < 1000):iter (σ := ((List Int) × Int)) (τ := ((List Int))) (fun s96 =>
cond ((decide (s96.2 < (n:Int)))) (Option.bind (idx c s96.2) fun x102 =>
cond ((!x102)) (Option.bind (appO 8 s96.1 ([s96.2])) fun x104 =>
some (.inl ((x104,(w64 (s96.2 + 1)))))) (some (.inl ((s96.1,(w64 (s96.2 + 1))))))) (some (.inr s96.1))) big (([],0)) = some (sel (fun x => !c.getD x false) n) := by
 refine iter_chain (fun k => (sel (fun x => !c.getD x false) k,(k:Int))) n _ rfl (by simp only [big]; omega) (fun k hk => ?_) ?_
 ·have hw:w64 ((k:Int) + 1) = ((k + 1:Nat):Int) := by rw [zn (by omega) (by omega)]; omega
  have hl := zl14 (fun x => !c.getD x false) k
  simp only [decide_eq_true (show (k:Int) < n by omega),cond_true,zp1 (l := c) false (show k < c.length by omega),Option.bind_some,hw,zh18]
  cases c.getD k false with
  | true => rfl
  | false =>
   rw [Bool.not_false,cond_true,zp2 (by rw [List.length_singleton]; omega)]
   rfl
 ·simp only [decide_eq_false (show ¬ (n:Int) < n by omega),cond_false]
def covP (t:List Task) (y:Yard) (p:List (List Int)) (r:WorkRules):List Int := (pcs p).flatMap fun q => if ok1 t y p r q then tsk p q else []
theorem bare_prog (hF:Few t y) (hf:fine t y = true) (hr:rulesB r = true) (hS:PlanS t y p) (hp:p.length ≤ 80) (hrow:∀ r ∈ p,r.length ≤ 80) (hcr:zt4 t y p r = some (some ((t,y,()),p,r,()),true)) :
    zn3 t y p r = some (sel (fun x => !(marks (List.replicate t.length false) (covP t y p r)).getD x false) t.length,0) := by
  have ht := hF.t
  have hl := zr35 hp hrow
  have hm:mkO 1 (lenI t) (false:Bool) = some (List.replicate t.length false) := by
    rw [zh,zq5 (by omega)]; simp
  unfold zn3
  simp only [hcr,Option.bind_some,Bool.not_true,cond_false,hm,zz28 hp hrow]
  have hP:∀ x ∈ pcs p,PcOk t y p x := fun x hx => ze32 hS hx
  unfold covP
  generalize pcs p = P at *
  rw [zt8 (s0 := ((0:Int),List.replicate t.length false)) (fun k c => ((k:Int),c)) (fun k c => marks c (if ok1 t y p r (P.getD k P0) then tsk p (P.getD k P0) else [])) P.length (fun _ c => c.length = t.length) (List.replicate t.length false) id rfl (by simp only [big]; omega) (by simp)]
  · simp only [id,Option.bind_some]
    rw [zo20 (fun (c:List Bool) (x:DutyPiece) => marks c (if ok1 t y p r x then tsk p x else [])) P0 P,zo24]
    rw [show lenI (marks (List.replicate t.length false) (P.flatMap fun q => if ok1 t y p r q then tsk p q else [])) = (t.length:Int) by rw [zh,zo14,List.length_replicate],zg32 (by rw [zo14,List.length_replicate]) (by omega)]
    rfl
  · intro k c hk hc
    have hw:w64 ((k:Int) + 1) = ((k + 1:Nat):Int) := by rw [zn (by omega) (by omega)]; omega
    have hq := hP _ (zj1 (d := P0) hk)
    obtain ⟨q,hqe⟩:∃ q,P.getD k P0 = q := ⟨_,rfl⟩
    rw [hqe] at hq
    have h1 := hq.le
    have h2 := hq.i.to
    have h3 := hq.i.fr
    have h4 := hq.i.car
    have h5 := hrow _ (zj1 (l := p) (i := q.1.toNat) (d := ([]:List Int)) (by omega))
    refine ⟨?_,by rw [zo14]; exact hc⟩
    simp only [decide_eq_true (show (k:Int) < lenI P by rw [zh]; omega),cond_true,zp1 P0 hk,hqe,Option.bind_some,zf32 hf hr hq.i,hw]
    have hb:(lenI (F1 t y p r q) == 0) = ok1 t y p r q := rfl
    rw [hb]
    cases ok1 t y p r q with
    | false => rfl
    | true =>
      have hw2:w64 (q.2.2.1 + 1) = q.2.2.1 + 1 := zn (by omega) (by omega)
      have hsl:slO (p.getD q.1.toNat []) q.2.1 (q.2.2.1 + 1) = some (tsk p q) := zm22 (by omega)
      have h0 := zu35 hq
      simp only [cond_true,zj (l := p) (d := ([]:List Int)) h4.1 h4.2,Option.bind_some,hw2,hsl]
      rw [zc29 (n := t.length) (fun x hx => zv35 hq hx) (by omega) hc]
      rfl
  · intro c _
    simp only [decide_eq_false (show ¬ (P.length:Int) < lenI P by rw [zh]; omega),cond_false,id]
end
end Go.Ai.Sx.Du

/- The depot: the night of a plan of cars. -/
namespace Go.Ai.Sx
open Du (InR T0 Few fine PlanS zj1)
def r0:WorkRules := (0,0,0,0,0,0,())
theorem zp38 {t:List Task} {y:Yard} (ht:t.length < 200) (hr:y.2.2.1.length ≤ 50) (hf:fine t y = true):Few t y := by
 unfold Du.fine Du.head at hf
 simp only [Bool.and_eq_true,decide_eq_true_eq] at hf
 obtain ⟨⟨h1,h2⟩,_⟩ := hf
 rw [List.all_eq_true] at h2
 have hl:y.1.length = y.2.2.1.length := h1.1.2
 refine ⟨ht,hr,by omega,fun x hx => ?_⟩
 obtain ⟨i,hi,rfl⟩ := List.getElem_of_mem hx
 have := h2 i (List.mem_range.2 (by omega))
 unfold Du.rowOk at this
 simp only [Bool.and_eq_true,decide_eq_true_eq] at this
 have h3 := this.1.1
 rw [show y.1.getD i [] = y.1[i] by simp [List.getD,hi]] at h3
 omega
theorem zd29 {t:List Task} {y:Yard} {p:List (List Int)} (hF:Few t y) (hp:p.length ≤ 80) (hrow:∀ r ∈ p,r.length ≤ 80) :
    (fine t y = false ∧ zn3 t y p r0 = some ([],2)) ∨ (fine t y = true ∧ ∃ b,zf7 t y p = some b ∧ zw (t,y,()) p = some b ∧ (b = false → zn3 t y p r0 = some ([],2)) ∧ (b = true → PlanS t y p ∧ ∃ q,zn3 t y p r0 = some (q,0))) := by
  obtain ⟨b,e1,e2,e3⟩ := Du.crewed_eq (r := r0) hF hp hrow
  have no:b = false → zn3 t y p r0 = some ([],2) := fun h => by
    subst h
    unfold zn3
    rw [e1]; rfl
  rw [Du.fine_eq t y hF] at e3
  cases hf:fine t y with
  | false =>
    rw [hf] at e3
    left
    refine ⟨rfl,no ?_⟩
    cases b
    · rfl
    · cases e3
  | true =>
    right
    obtain ⟨b',k1,k2,k3⟩ := Du.plan_eq hF hf hp hrow
    rw [hf,k2,Du.rules_ref,show Du.rulesB r0 = true by decide] at e3
    have hbb:b = b' := by
      cases b <;> cases b' <;> first | rfl | cases e3
    subst hbb
    refine ⟨rfl,b,k2,k1,no,fun hb => ?_⟩
    subst hb
    have hS := Du.plan_seen hF hf hp hrow k1
    exact ⟨hS,_,Du.bare_prog hF hf (e2 rfl).2.1 hS hp hrow (by rw [e1]; rfl)⟩
section
variable {t:List Task} {y:Yard} {p:List (List Int)} {k l:List Int} {day:Int}
def hlast (t:List Task) (p:List (List Int)) (x:Int):Task := t.getD ((p.getD x.toNat []).getD ((p.getD x.toNat []).length - 1) 0).toNat T0
def hfirst (t:List Task) (p:List (List Int)) (x:Int):Task := t.getD ((p.getD x.toNat []).getD 0 0).toNat T0
def fc (t:List Task) (p:List (List Int)) (x:Int):Int := (hlast t p x).2.2.2.1
def fl (t:List Task) (p:List (List Int)) (day:Int) (x:Int):Int := (hfirst t p x).2.2.1 + day
def ids (n:Nat):List Int := rl n fun i => (i:Int)
theorem zf6 {n:Nat} {x:Int}:x ∈ ids n ↔ 0 ≤ x ∧ x < n := by
 unfold ids rl
 rw [List.mem_map]
 constructor
 ·rintro ⟨i,hi,rfl⟩
  have := List.mem_range.1 hi
  omega
 ·intro h
  exact ⟨x.toNat,List.mem_range.2 (by omega),by omega⟩
theorem fine_task (hf:fine t y = true) {i:Nat} (hi:i < t.length):0 ≤ (t.getD i T0).2.2.1 ∧ (t.getD i T0).2.2.1 ≤ (t.getD i T0).2.2.2.1 ∧ (t.getD i T0).2.2.2.1 ≤ 200000 := by
 unfold Du.fine at hf
 simp only [Bool.and_eq_true,List.all_eq_true] at hf
 have := hf.2 i (List.mem_range.2 hi)
 unfold Du.taskOk at this
 simp only [Bool.and_eq_true,decide_eq_true_eq] at this
 exact ⟨this.1.1.2.1,this.1.1.2.2,this.1.2⟩
theorem zp20 (hS:PlanS t y p) {x:Int} (hx:0 ≤ x ∧ x < p.length):0 < (p.getD x.toNat []).length ∧ ∀ j,j < (p.getD x.toNat []).length → InR t.length ((p.getD x.toNat []).getD j 0) := by
 refine ⟨hS.nz _ (by omega),fun j hj => hS.rng _ ?_⟩
 rw [List.mem_flatten]
 exact ⟨_,zj1 (by omega),zj1 hj⟩
theorem zn18 (hf:fine t y = true) (hS:PlanS t y p) {x:Int} (hx:0 ≤ x ∧ x < p.length):0 ≤ fc t p x ∧ fc t p x ≤ 200000 := by
 obtain ⟨h1,h2⟩ := zp20 hS hx
 obtain ⟨h3,h4⟩ := h2 ((p.getD x.toNat []).length - 1) (by omega)
 have := fine_task hf (i := ((p.getD x.toNat []).getD ((p.getD x.toNat []).length - 1) 0).toNat) (by omega)
 unfold fc hlast
 omega
theorem zr10 (hf:fine t y = true) (hS:PlanS t y p) (hd:0 ≤ day ∧ day ≤ 200000) {x:Int} (hx:0 ≤ x ∧ x < p.length):0 ≤ fl t p day x ∧ fl t p day x ≤ 400000 := by
 obtain ⟨h1,h2⟩ := zp20 hS hx
 obtain ⟨h3,h4⟩ := h2 0 (by omega)
 have := fine_task hf (i := ((p.getD x.toNat []).getD 0 0).toNat) (by omega)
 unfold fl hfirst
 omega
theorem home1 (hS:PlanS t y p) (hrow:∀ r ∈ p,r.length ≤ 80) {x:Int} (hx:0 ≤ x ∧ x < p.length):zs2 x t p = some (fc t p x) := by
 obtain ⟨h1,h2⟩ := zp20 hS hx
 obtain ⟨h3,h4⟩ := h2 ((p.getD x.toNat []).length - 1) (by omega)
 have h5 := hrow _ (zj1 (l := p) (i := x.toNat) (d := ([]:List Int)) (by omega))
 have hw:w64 ((lenI (p.getD x.toNat [])) - 1) = (((p.getD x.toNat []).length - 1:Nat):Int) := by rw [zh,zn (by omega) (by omega)]; omega
 unfold zs2
 simp only [zj (l := p) (d := ([]:List Int)) hx.1 hx.2,Option.bind_some,hw]
 rw [zp1 (0:Int) (show (p.getD x.toNat []).length - 1 < (p.getD x.toNat []).length by omega),Option.bind_some,zj (l := t) (d := T0) h3 h4]
 rfl
theorem home2 (hf:fine t y = true) (hS:PlanS t y p) (hd:0 ≤ day ∧ day ≤ 200000) {x:Int} (hx:0 ≤ x ∧ x < p.length):zc2 x t p day = some (fl t p day x) := by
 obtain ⟨h1,h2⟩ := zp20 hS hx
 obtain ⟨h3,h4⟩ := h2 0 (by omega)
 have h5 := zr10 hf hS hd hx
 unfold zc2
 simp only [zj (l := p) (d := ([]:List Int)) hx.1 hx.2,Option.bind_some]
 rw [show (0:Int) = ((0:Nat):Int) from rfl,zp1 (0:Int) (show 0 < (p.getD x.toNat []).length by omega),Option.bind_some,zj (l := t) (d := T0) h3 h4,Option.bind_some]
 have:w64 ((t.getD ((p.getD x.toNat []).getD 0 0).toNat T0).2.2.1 + day) = fl t p day x := zn (by unfold fl hfirst at h5; omega) (by unfold fl hfirst at h5; omega)
 rw [this]
def hcars (t:List Task) (p:List (List Int)) (k l:List Int) (C:List Int):List StableCar := C.map fun x => (k.getD x.toNat 0,l.getD x.toNat 0,fc t p x,200000,())
def hleaves (t:List Task) (p:List (List Int)) (k:List Int) (day:Int) (L:List Int):List StableLeave := L.map fun x => (k.getD x.toNat 0,fl t p day x,())
def inTime (t:List Task) (p:List (List Int)) (day:Int):Bool := (ids p.length).all fun x => decide (fl t p day x ≤ 200000)
def kOk (p:List (List Int)) (k l:List Int):Bool := (List.range p.length).all fun i => (decide (0 ≤ k.getD i 0) && decide (k.getD i 0 ≤ 100)) && (decide (1 ≤ l.getD i 0) && decide (l.getD i 0 ≤ 10000000))
theorem zp24 {ρ:Type} {r:ρ} (hk:k.length = p.length) (hl:l.length = p.length) (hp:p.length < 1000):iter (σ := Int) (τ := Unit ⊕ ρ) (fun s26 =>
cond ((decide (s26 < (lenI p)))) (Option.bind (idx k s26) fun x34 =>
Option.bind (zi1 x34 0 100) fun y35 =>
cond ((!y35)) (some (.inr ((.inr r)))) (Option.bind (idx l s26) fun x38 =>
Option.bind (zi1 x38 1 10000000) fun y39 =>
cond ((!y39)) (some (.inr ((.inr r)))) (some (.inl ((w64 (s26 + 1))))))) (some (.inr ((.inl (())))))) big 0 = some (if kOk p k l then .inl () else .inr r) := by
 refine zl6 p.length _ r (by simp only [big]; omega) (fun i hi => ?_) ?_
 ·have hw:w64 ((i:Int) + 1) = i + 1 := zn (by omega) (by omega)
  simp only [decide_eq_true (show (i:Int) < lenI p by rw [zh]; omega),cond_true,zp1 (l := k) 0 (show i < k.length by omega),zp1 (l := l) 0 (show i < l.length by omega),Option.bind_some,within_eq,hw]
  generalize (decide (0 ≤ k.getD i 0) && decide (k.getD i 0 ≤ 100)) = b1
  generalize (decide (1 ≤ l.getD i 0) && decide (l.getD i 0 ≤ 10000000)) = b2
  cases b1 <;> cases b2 <;> rfl
 ·simp only [decide_eq_false (show ¬ ((p.length:Nat):Int) < lenI p by rw [zh]; omega),cond_false]
abbrev hno:List StableCar × List StableLeave × List Int × List Int × Int := ([],[],[],[],4)
def homeR (t:List Task) (p:List (List Int)) (k l:List Int) (day:Int):List StableCar × List StableLeave × List Int × List Int × Int :=
 if decide (p.length ≤ 9) && inTime t p day then (hcars t p k l (sortF (fc t p) (ids p.length)),hleaves t p k day (sortF (fl t p day) (ids p.length)),sortF (fc t p) (ids p.length),sortF (fl t p day) (ids p.length),0) else hno
theorem zs10 {A B:Type} {f:A → B} {C:List A} {i:Nat} (h:i < C.length):(C.take (i + 1)).map f = (C.take i).map f ++ [f C[i]] := by
 rw [List.take_succ_eq_append_getElem h,List.map_append]; rfl
theorem zh32 (hf:fine t y = true) (hS:PlanS t y p) (hrow:∀ r ∈ p,r.length ≤ 80) (hp:p.length ≤ 80) (hB:∃ q,zn3 t y p r0 = some (q,0)) (hk:k.length = p.length) (hl:l.length = p.length) (hd:0 ≤ day ∧ day ≤ 200000) (hkl:kOk p k l = true) :
    zb6 t y p k l day = some (homeR t p k l day) := by
  obtain ⟨q,hB⟩ := hB
  apply Tot.eq
  unfold zb6
  rw [show (((0,0,0,0,0,0,()):WorkRules)) = r0 from rfl,hB,Option.bind_some]
  simp only [show (((0:Int) != 0)) = false from rfl,cond_false,show (lenI k != lenI p) = false by simp [zh,hk],show (lenI l != lenI p) = false by simp [zh,hl],within_eq day 0 200000,Option.bind_some,decide_eq_true hd.1,decide_eq_true hd.2,Bool.and_self,Bool.not_true]
  rw [zp24 hk hl (by omega),hkl,if_pos rfl,Option.bind_some,zg5]
  by_cases h9:p.length ≤ 9
  case neg =>
    rw [decide_eq_true (show lenI p > 9 by rw [zh]; omega),cond_true]
    refine Tot.some ?_
    unfold homeR
    rw [decide_eq_false h9]; rfl
  rw [decide_eq_false (show ¬ lenI p > 9 by rw [zh]; omega),cond_false]
  refine Tot.bind (Q := fun r => r = (ids p.length,ids p.length)) ?_ ?_
  · refine Tot.iter (fun s:List Int × List Int × Int => ∃ i:Nat,i ≤ p.length ∧ s = (ids i,ids i,(i:Int))) _ (fun s => p.length - s.2.2.toNat) ⟨0,by omega,rfl⟩ (by simp only [big]; omega) ?_
    rintro _ ⟨i,hi,rfl⟩
    by_cases hin:i < p.length
    · have hw:w64 ((i:Int) + 1) = ((i + 1:Nat):Int) := by rw [zn (by omega) (by omega)]; rfl
      have hs:ids i ++ [(i:Int)] = ids (i + 1) := by unfold ids rl; rw [List.range_succ,List.map_append]; rfl
      have hle:(ids i).length = i := zj9 _ _
      simp only [decide_eq_true (show (i:Int) < lenI p by rw [zh]; omega),cond_true,hw]
      rw [zp2 (by rw [hle]; simp; omega),Option.bind_some,Option.bind_some,hs]
      exact Tot.some ⟨⟨i + 1,by omega,rfl⟩,by simp only [Int.toNat_natCast]; omega⟩
    · obtain rfl:i = p.length := by omega
      simp only [decide_eq_false (show ¬ ((p.length:Nat):Int) < lenI p by rw [zh]; omega),cond_false]
      exact Tot.some rfl
  rintro _ rfl
  have hil:(ids p.length).length = p.length := zj9 _ _
  rw [zs11 (f := fc t p) (by show (ids p.length).length < 20; omega) (fun x hx a ha => by
    have h1 := zf6.1 hx
    have h2 := zf6.1 ha
    have r1 := zn18 hf hS h1
    have r2 := zn18 hf hS h2
    refine ⟨fc t p x - fc t p a, ?_, ?_⟩
    · show zj4 x a _ = _
      unfold zj4
      simp only [home1 hS hrow h1,Option.bind_some,home1 hS hrow h2]
      rw [zn (by omega) (by omega)]
    · rw [Bool.eq_iff_iff,decide_eq_true_eq,decide_eq_true_eq]; omega),Option.bind_some]
  rw [zs11 (f := fl t p day) (by show (ids p.length).length < 20; omega) (fun x hx a ha => by
    have h1 := zf6.1 hx
    have h2 := zf6.1 ha
    have r1 := zr10 hf hS hd h1
    have r2 := zr10 hf hS hd h2
    refine ⟨fl t p day x - fl t p day a, ?_, ?_⟩
    · show zk4 x a _ = _
      unfold zk4
      simp only [home2 hf hS hd h1,Option.bind_some,home2 hf hS hd h2]
      rw [zn (by omega) (by omega)]
    · rw [Bool.eq_iff_iff,decide_eq_true_eq,decide_eq_true_eq]; omega),Option.bind_some]
  obtain ⟨C,hC⟩:∃ C,C = sortF (fc t p) (ids p.length) := ⟨_,rfl⟩
  obtain ⟨L,hL⟩:∃ L,L = sortF (fl t p day) (ids p.length) := ⟨_,rfl⟩
  have hCl:C.length = p.length := by rw [hC,zx6,hil]
  have hLl:L.length = p.length := by rw [hL,zx6,hil]
  have hCm:∀ x,x ∈ C ↔ x ∈ ids p.length := fun x => by rw [hC]; exact (zj5 _).mem_iff
  have hLm:∀ x,x ∈ L ↔ x ∈ ids p.length := fun x => by rw [hL]; exact (zj5 _).mem_iff
  have hR:homeR t p k l day = if inTime t p day then (hcars t p k l C,hleaves t p k day L,C,L,0) else hno := by
    unfold homeR
    rw [decide_eq_true h9,← hC,← hL]; rfl
  rw [← hC,← hL,hR]
  refine Tot.bind (Q := fun r:(List StableCar × List StableLeave) ⊕ (List StableCar × List StableLeave × List Int × List Int × Int) => r = if inTime t p day then .inl (hcars t p k l C,hleaves t p k day L) else .inr hno) ?_ ?_
  · refine Tot.iter (fun s:List StableCar × List StableLeave × Int => ∃ i:Nat,i ≤ p.length ∧ s = (hcars t p k l (C.take i),hleaves t p k day (L.take i),(i:Int)) ∧ ∀ x ∈ L.take i,fl t p day x ≤ 200000) _ (fun s => p.length - s.2.2.toNat) ⟨0,by omega,by simp [hcars,hleaves],fun x hx => by simp at hx⟩ (by simp only [big]; omega) ?_
    rintro _ ⟨i,hi,rfl,hall⟩
    by_cases hin:i < p.length
    · have hw:w64 ((i:Int) + 1) = ((i + 1:Nat):Int) := by rw [zn (by omega) (by omega)]; rfl
      have hiC:i < C.length := by omega
      have hiL:i < L.length := by omega
      have hc := zf6.1 ((hCm _).1 (List.getElem_mem hiC))
      have hl' := zf6.1 ((hLm _).1 (List.getElem_mem hiL))
      simp only [decide_eq_true (show (i:Int) < lenI p by rw [zh]; omega),cond_true,ze9 hiC,ze9 hiL,Option.bind_some,home2 hf hS hd hl',home1 hS hrow hc,hw,
        zj (l := k) (d := (0:Int)) hc.1 (show C[i] < (k.length:Int) by omega),zj (l := l) (d := (0:Int)) hc.1 (show C[i] < (l.length:Int) by omega),zj (l := k) (d := (0:Int)) hl'.1 (show L[i] < (k.length:Int) by omega)]
      by_cases hle:fl t p day L[i] ≤ 200000
      · have l1:(hcars t p k l (C.take i)).length = i := by unfold hcars; rw [List.length_map,List.length_take]; omega
        have l2:(hleaves t p k day (L.take i)).length = i := by unfold hleaves; rw [List.length_map,List.length_take]; omega
        rw [decide_eq_false (show ¬ fl t p day L[i] > 200000 by omega),cond_false,zp2 (by rw [l1]; simp; omega),Option.bind_some,zp2 (by rw [l2]; simp; omega),Option.bind_some]
        refine Tot.some ⟨⟨i + 1,by omega, ?_,fun x hx => ?_⟩,by simp only [Int.toNat_natCast]; omega⟩
        · unfold hcars hleaves
          rw [zs10 hiC,zs10 hiL]
        · rw [List.take_succ_eq_append_getElem hiL] at hx
          rcases List.mem_append.1 hx with hx | hx
          · exact hall x hx
          · rw [List.mem_singleton.1 hx]; exact hle
      · rw [decide_eq_true (show fl t p day L[i] > 200000 by omega),cond_true]
        have:inTime t p day = false := by
          unfold inTime
          rw [List.all_eq_false]
          exact ⟨L[i],(hLm _).1 (List.getElem_mem hiL),by simpa using hle⟩
        rw [this]
        exact Tot.some rfl
    · obtain rfl:i = p.length := by omega
      simp only [decide_eq_false (show ¬ ((p.length:Nat):Int) < lenI p by rw [zh]; omega),cond_false]
      have:inTime t p day = true := by
        unfold inTime
        rw [List.all_eq_true]
        intro x hx
        exact decide_eq_true (hall x (by rw [List.take_of_length_le (by omega)]; exact (hLm x).2 hx))
      rw [this]
      refine Tot.some ?_
      show _ = _
      rw [if_pos rfl,List.take_of_length_le (show C.length ≤ p.length by omega),List.take_of_length_le (show L.length ≤ p.length by omega)]
  rintro _ rfl
  cases inTime t p day with
  | true => exact Tot.some rfl
  | false => exact Tot.some rfl
end
end Go.Ai.Sx

/- The depot: the night of a plan of cars: the specification's,and the law. -/
namespace Go.Ai.Sx
open Du (InR T0 Few fine PlanS zj1)
section
variable {t:List Task} {y:Yard} {p:List (List Int)} {k l:List Int} {day:Int}
theorem zo18 (n:Nat):(ids n).length = n := zj9 _ _
end
end Go.Ai.Sx

/- The depot: the theorem of the next morning. -/
namespace Go.Ai.Sx
open Du (InR T0 Few fine PlanS zj1)
section
variable {t:List Task} {y:Yard} {p:List (List Int)} {k l:List Int} {day:Int}
theorem zt10 {A B:Type} {f:A → B} {L:List A} {i:Nat} {d:B} (a:A) (h:i < L.length):(L.map f).getD i d = f (L.getD i a) := by simp [List.getD,h]
theorem zp18 {n i:Nat} {w:Int} (h:i < n):(List.replicate n w).getD i 0 = w := by simp [List.getD,h]
theorem up_le {f:Int → Int} {A:List Int} (h:UpF f A) {i:Nat} (hi:i + 1 < A.length):f (A.getD i 0) ≤ f (A.getD (i + 1) 0) := by
 have := List.pairwise_iff_getElem.1 h i (i + 1) (by omega) hi (by omega)
 simpa [List.getD,hi,show i < A.length by omega] using this
theorem zp14 {n:Nat} {q:Nat → Bool} (h:∀ i,i < n → q i = true):(List.range n).all q = true := List.all_eq_true.2 fun i hi => h i (List.mem_range.1 hi)
theorem zw11 {a b x:Int} (h:a ≤ x ∧ x ≤ b):inB a b x = true := by
 unfold inB
 rw [decide_eq_true h.1,decide_eq_true h.2]; rfl
theorem zq24 (hf:fine t y = true) (hS:PlanS t y p) (hd:0 ≤ day ∧ day ≤ 200000) (hkl:kOk p k l = true) (hp:p.length ≤ 9) (hT:inTime t p day = true) {w:Int} (hw:0 ≤ w ∧ w ≤ 10000000) :
    nightB [(w,true,())] (hcars t p k l (sortF (fc t p) (ids p.length))) (hleaves t p k day (sortF (fl t p day) (ids p.length))) = true := by
  have hCl:(sortF (fc t p) (ids p.length)).length = p.length := by rw [zx6,zo18]
  have hLl:(sortF (fl t p day) (ids p.length)).length = p.length := by rw [zx6,zo18]
  have hCm:∀ i,i < p.length → 0 ≤ (sortF (fc t p) (ids p.length)).getD i 0 ∧ (sortF (fc t p) (ids p.length)).getD i 0 < p.length := fun i hi => zf6.1 ((zj5 _).mem_iff.1 (zj1 (by omega)))
  have hLm:∀ i,i < p.length → 0 ≤ (sortF (fl t p day) (ids p.length)).getD i 0 ∧ (sortF (fl t p day) (ids p.length)).getD i 0 < p.length := fun i hi => zf6.1 ((zj5 _).mem_iff.1 (zj1 (by omega)))
  have hCu := ze18 (f := fc t p) (ids p.length)
  have hLu := ze18 (f := fl t p day) (ids p.length)
  generalize sortF (fc t p) (ids p.length) = C at *
  generalize sortF (fl t p day) (ids p.length) = L at *
  have c1:(hcars t p k l C).length = p.length := by unfold hcars; rw [List.length_map,hCl]
  have c2:(hleaves t p k day L).length = p.length := by unfold hleaves; rw [List.length_map,hLl]
  have hk:∀ i:Int,0 ≤ i ∧ i < p.length → (0 ≤ k.getD i.toNat 0 ∧ k.getD i.toNat 0 ≤ 100) ∧ 1 ≤ l.getD i.toNat 0 ∧ l.getD i.toNat 0 ≤ 10000000 := by
    intro i hi
    unfold kOk at hkl
    have := List.all_eq_true.1 hkl i.toNat (List.mem_range.2 (by omega))
    simpa only [Bool.and_eq_true,decide_eq_true_eq] using this
  have hti:∀ i:Int,0 ≤ i ∧ i < p.length → fl t p day i ≤ 200000 := fun i hi => by
    unfold inTime at hT
    exact of_decide_eq_true (List.all_eq_true.1 hT i (zf6.2 hi))
  unfold nightB
  rw [c1,c2,decide_eq_true rfl,decide_eq_true hp,zw11 (x := (([(w,true,())]:List StableTrack).length:Int)) (by simp)]
  simp only [Bool.true_and,Bool.and_eq_true]
  refine ⟨⟨zp14 fun i hi => ?_,zp14 fun i hi => ?_⟩,zp14 fun i hi => ?_⟩
  · have:i = 0 := by simp at hi; omega
    subst this
    exact zw11 hw
  · have e:∀ j,j < p.length → (hcars t p k l C).getD j car0 = (k.getD (C.getD j 0).toNat 0,l.getD (C.getD j 0).toNat 0,fc t p (C.getD j 0),200000,()) := fun j hj => zt10 0 (by omega)
    unfold carB
    have h1 := hk _ (hCm i hi)
    have h2 := zn18 hf hS (hCm i hi)
    rw [e i hi,zw11 h1.1,zw11 h1.2,zw11 h2,zw11 (x := (200000:Int)) (by omega)]
    simp only [Bool.true_and,Bool.or_eq_true,decide_eq_true_eq,Bool.not_eq_true',decide_eq_false_iff_not]
    by_cases h0:i = 0
    · exact .inl h0
    · right
      rw [e (i - 1) (by omega)]
      have := up_le hCu (i := i - 1) (by omega)
      rw [show i - 1 + 1 = i by omega] at this
      simp only []
      omega
  · have e:∀ j,j < p.length → (hleaves t p k day L).getD j lev0 = (k.getD (L.getD j 0).toNat 0,fl t p day (L.getD j 0),()) := fun j hj => zt10 0 (by omega)
    unfold leaveB
    have h1 := hk _ (hLm i hi)
    have h2 := zr10 hf hS hd (hLm i hi)
    have h3 := hti _ (hLm i hi)
    rw [e i hi,zw11 h1.1,zw11 (x := fl t p day (L.getD i 0)) ⟨h2.1,h3⟩]
    simp only [Bool.true_and,Bool.or_eq_true,decide_eq_true_eq,Bool.not_eq_true',decide_eq_false_iff_not]
    by_cases h0:i = 0
    · exact .inl h0
    · right
      rw [e (i - 1) (by omega)]
      have := up_le hLu (i := i - 1) (by omega)
      rw [show i - 1 + 1 = i by omega] at this
      simp only []
      omega
theorem zq20 {n:Nat} (hn:n < 1000) (w:Int):iter (σ := (Int × (List Int))) (τ := ((List Int))) (fun s30 =>
cond ((decide (s30.1 < (n:Int)))) (Option.bind (idx s30.2 s30.1) fun _ =>
some (.inl (((w64 (s30.1 + 1)),(s30.2).set (Int.toNat s30.1) w)))) (some (.inr s30.2))) big ((0,List.replicate n 0)) = some (List.replicate n w) := by
 refine Du.iter_chain (fun i => ((i:Int),List.replicate i w ++ List.replicate (n - i) 0)) n _ (by simp) (by simp only [big]; omega) (fun i hi => ?_) ?_
 ·have hw:w64 ((i:Int) + 1) = ((i + 1:Nat):Int) := by rw [zn (by omega) (by omega)]; rfl
  simp only [decide_eq_true (show (i:Int) < n by omega),cond_true,hw]
  rw [ze9 (show i < (List.replicate i w ++ List.replicate (n - i) 0).length by simp; omega),Option.bind_some]
  congr 4
  rw [Int.toNat_natCast,List.set_append_right _ _ (by simp)]
  rw [show n - i = (n - (i + 1)) + 1 by omega,List.replicate_succ,List.length_replicate,Nat.sub_self,List.set_cons_zero,List.replicate_succ',List.append_assoc]
  rfl
 ·simp only [decide_eq_false (show ¬ ((n:Nat):Int) < n by omega),cond_false,Nat.sub_self,List.replicate_zero,List.append_nil]
theorem ze29 (hf:fine t y = true) (ht:t.length < 1000):Tot (fun r:Int × Int => (0 ≤ r.1 ∧ r.1 ≤ 200000 ∧ 0 ≤ r.2 ∧ r.2 ≤ 200000) ∧ ∀ i,i < t.length → (t.getD i T0).2.2.2.1 ≤ r.1 ∧ r.2 ≤ (t.getD i T0).2.2.1) (iter (σ := (Int × Int × Int)) (τ := (Int × Int)) (fun s39 =>
cond ((decide (s39.2.2 < (lenI t)))) (Option.bind (idx t s39.2.2) fun x42 =>
Option.bind (idx t s39.2.2) fun x43 =>
some (.inl (((max s39.1 x42.2.2.2.1),(min s39.2.1 x43.2.2.1),(w64 (s39.2.2 + 1)))))) (some (.inr (((s39.1,s39.2.1)))))) big ((0,200000,0))) := by
 refine Tot.iter (fun s:Int × Int × Int => ∃ i:Nat,i ≤ t.length ∧ s.2.2 = i ∧ (0 ≤ s.1 ∧ s.1 ≤ 200000 ∧ 0 ≤ s.2.1 ∧ s.2.1 ≤ 200000) ∧ ∀ j,j < i → (t.getD j T0).2.2.2.1 ≤ s.1 ∧ s.2.1 ≤ (t.getD j T0).2.2.1) _ (fun s => t.length - s.2.2.toNat) ⟨0,by omega,rfl,⟨by simp,by simp,by simp,by simp⟩,fun j hj => by omega⟩ (by simp only [big]; omega) ?_
 rintro ⟨a,b,c⟩ ⟨i,hi,hc,hb,hall⟩
 simp only [] at hc hb hall
 subst hc
 by_cases hin:i < t.length
 ·have hw:w64 ((i:Int) + 1) = ((i + 1:Nat):Int) := by rw [zn (by omega) (by omega)]; rfl
  have h1 := fine_task hf hin
  simp only [decide_eq_true (show (i:Int) < lenI t by rw [zh]; omega),cond_true,zp1 T0 hin,Option.bind_some,hw]
  refine Tot.some ⟨⟨i + 1,by omega,rfl,by simp only []; omega,fun j hj => ?_⟩,by simp only [Int.toNat_natCast]; omega⟩
  simp only []
  by_cases e:j = i
  ·subst e; omega
  ·have := hall j (by omega)
   omega
 ·obtain rfl:i = t.length := by omega
  simp only [decide_eq_false (show ¬ ((t.length:Nat):Int) < lenI t by rw [zh]; omega),cond_false]
  exact Tot.some ⟨hb,hall⟩
theorem zr20 {w:Int} {c:List StableCar} (h:∀ i,i < c.length → (c.getD i car0).2.1 = w):∀ i,i ≤ c.length → lenC c i = w * i
 | 0,_ => by simp [lenC]
 | i + 1,hi => by
  simp only [lenC]
  rw [zr20 h i (by omega),h i (by omega)]
  rw [show ((i + 1:Nat):Int) = (i:Int) + 1 by omega,Int.mul_add,Int.mul_one]
theorem zq18 (t:List Task) (y:Yard) (w day:Int):zu3 t y w day = some true := by
 unfold zu3
 by_cases h1:t.length ≤ 12
 case neg => rw [decide_eq_true (show lenI t > 12 by rw [zh]; omega)]; rfl
 by_cases h2:y.2.2.1.length ≤ 10
 case neg => rw [decide_eq_true (show lenI y.2.2.1 > 10 by rw [zh]; omega)]; cases decide (lenI t > 12) <;> rfl
 rw [decide_eq_false (show ¬ lenI t > 12 by rw [zh]; omega),decide_eq_false (show ¬ lenI y.2.2.1 > 10 by rw [zh]; omega),Du.fine_eq' t y (by omega) (by omega)]
 cases hf:fine t y with
 | false => rfl
 | true =>
  simp only [cond_false,Option.bind_some,Bool.not_true]
  by_cases h3:1 ≤ w
  case neg => rw [decide_eq_true (show w < 1 by omega)]; rfl
  by_cases h4:w ≤ 100000
  case neg => rw [decide_eq_true (show w > 100000 by omega)]; cases decide (w < 1) <;> rfl
  by_cases h5:0 ≤ day
  case neg => rw [decide_eq_true (show day < 0 by omega)]; cases decide (w < 1) <;> cases decide (w > 100000) <;> rfl
  by_cases h6:day ≤ 200000
  case neg => rw [decide_eq_true (show day > 200000 by omega)]; cases decide (w < 1) <;> cases decide (w > 100000) <;> cases decide (day < 0) <;> rfl
  rw [decide_eq_false (show ¬ w < 1 by omega),decide_eq_false (show ¬ w > 100000 by omega),decide_eq_false (show ¬ day < 0 by omega),decide_eq_false (show ¬ day > 200000 by omega)]
  simp only [cond_false,Option.bind_some]
  have hF := zp38 (by omega) (by omega) hf
  obtain ⟨p,q,hc,hR⟩ := Du.cars_spec hF hf
  obtain ⟨m,_,hm⟩ := hR.most
  have hrow:∀ r ∈ p,r.length ≤ 80 := fun r hr => by have := hR.rows r hr; omega
  have hpl := Du.planned_true hF hf hR.plan
  rw [hc,Option.bind_some]
  simp only [show (((0:Int) != 0)) = false from rfl,cond_false]
  by_cases h7:p.length ≤ 6
  case neg => rw [decide_eq_true (show lenI p > 6 by rw [zh]; omega)]; rfl
  rw [decide_eq_false (show ¬ lenI p > 6 by rw [zh]; omega),cond_false]
  have hS:PlanS t y p := Du.plan_seen hF hf (by omega) hrow hpl
  have hB:∃ q,zn3 t y p r0 = some (q,0) := by
   rcases zd29 hF (show p.length ≤ 80 by omega) hrow with ⟨h,_⟩ | ⟨_,b,_,k1,_,k3⟩
   ·rw [hf] at h; cases h
   ·rw [hpl] at k1
    cases k1
    exact (k3 rfl).2
  have hmk:mkO 8 (lenI p) (0:Int) = some (List.replicate p.length 0) := by rw [zh,zq5 (by omega)]; simp
  rw [hmk,Option.bind_some,Option.bind_some,zh,zq20 (by omega) w,Option.bind_some]
  obtain ⟨⟨last,first⟩,he,hb,hall⟩ := ze29 hf (by omega)
  simp only [] at hb hall
  rw [he,Option.bind_some]
  have hkl:kOk p (List.replicate p.length 0) (List.replicate p.length w) = true := by
   unfold kOk
   refine zp14 fun i hi => ?_
   have e1:(List.replicate p.length (0:Int)).getD i 0 = 0 := by simp [List.getD,hi]
   have e2:(List.replicate p.length w).getD i 0 = w := by simp [List.getD,hi]
   rw [e1,e2,decide_eq_true h3,decide_eq_true (show w ≤ 10000000 by omega)]
   rfl
  rw [zh32 hf hS hrow (by omega) hB (by simp) (by simp) ⟨h5,h6⟩ hkl,Option.bind_some]
  unfold homeR
  rw [decide_eq_true (show p.length ≤ 9 by omega),Bool.true_and]
  cases hT:inTime t p day with
  | false => rfl
  | true =>
   simp only [if_true,show (((0:Int) != 0)) = false from rfl,cond_false]
   have hw6:w64 (6 * w) = 6 * w := zn (by omega) (by omega)
   have hn := zq24 hf hS ⟨h5,h6⟩ hkl (by omega) hT (w := 6 * w) (by omega)
   have hti:∀ i:Int,0 ≤ i ∧ i < p.length → fl t p day i ≤ 200000 := fun i hi => by
    unfold inTime at hT
    exact of_decide_eq_true (List.all_eq_true.1 hT i (zf6.2 hi))
   have hCl:(sortF (fc t p) (ids p.length)).length = p.length := by rw [zx6,zo18]
   have hLl:(sortF (fl t p day) (ids p.length)).length = p.length := by rw [zx6,zo18]
   have hCm:∀ i,i < p.length → 0 ≤ (sortF (fc t p) (ids p.length)).getD i 0 ∧ (sortF (fc t p) (ids p.length)).getD i 0 < p.length := fun i hi => zf6.1 ((zj5 _).mem_iff.1 (zj1 (by omega)))
   have hLm:∀ i,i < p.length → 0 ≤ (sortF (fl t p day) (ids p.length)).getD i 0 ∧ (sortF (fl t p day) (ids p.length)).getD i 0 < p.length := fun i hi => zf6.1 ((zj5 _).mem_iff.1 (zj1 (by omega)))
   have ec:∀ j,j < p.length → (hcars t p (List.replicate p.length 0) (List.replicate p.length w) (sortF (fc t p) (ids p.length))).getD j car0 = (0,w,fc t p ((sortF (fc t p) (ids p.length)).getD j 0),200000,()) := fun j hj => by
    have h := hCm j hj
    unfold hcars
    rw [zt10 0 (by omega)]
    rw [zp18 (by omega),zp18 (by omega)]
   have el:∀ j,j < p.length → (hleaves t p (List.replicate p.length 0) day (sortF (fl t p day) (ids p.length))).getD j lev0 = (0,fl t p day ((sortF (fl t p day) (ids p.length)).getD j 0),()) := fun j hj => by
    have h := hLm j hj
    unfold hleaves
    rw [zt10 0 (by omega)]
    rw [zp18 (by omega)]
   rw [hw6]
   have c1:(hcars t p (List.replicate p.length 0) (List.replicate p.length w) (sortF (fc t p) (ids p.length))).length = p.length := by unfold hcars; rw [List.length_map,hCl]
   have c2:(hleaves t p (List.replicate p.length 0) day (sortF (fl t p day) (ids p.length))).length = p.length := by unfold hleaves; rw [List.length_map,hLl]
   generalize hcars t p (List.replicate p.length 0) (List.replicate p.length w) (sortF (fc t p) (ids p.length)) = c at *
   generalize hleaves t p (List.replicate p.length 0) day (sortF (fl t p day) (ids p.length)) = v at *
   have hwf:w64 (first + day) = first + day := zn (by omega) (by omega)
   simp only [hwf]
   by_cases hl:last ≤ first + day
   case neg =>
    rw [decide_eq_true (show last > first + day by omega)]
    rcases zs16 (t := [(6 * w,true,())]) (c := c) (l := v) (by simp) (by omega) (by omega) hn with ⟨r,hr,hB⟩ | ⟨hr,hno⟩
    ·rw [hr]; rfl
    ·rw [hr]; rfl
   rw [decide_eq_false (show ¬ last > first + day by omega)]
   have hin:∀ x:Int,0 ≤ x ∧ x < p.length → fc t p x ≤ last ∧ first + day ≤ fl t p day x := fun x hx => by
    obtain ⟨g1,g2⟩ := zp20 hS hx
    obtain ⟨g3,g4⟩ := g2 ((p.getD x.toNat []).length - 1) (by omega)
    obtain ⟨g5,g6⟩ := g2 0 (by omega)
    have a1 := hall ((p.getD x.toNat []).getD ((p.getD x.toNat []).length - 1) 0).toNat (by omega)
    have a2 := hall ((p.getD x.toNat []).getD 0 0).toNat (by omega)
    unfold fc fl hlast hfirst
    omega
   have hk:OneKind c v := by
    refine ⟨fun i hi => ?_,fun i hi => ?_,fun i hi => ?_,fun h0 => ?_⟩
    ·rw [ec i (by omega),ec 0 (by omega)]
    ·rw [el i (by omega),ec 0 (by omega)]
    ·rw [el _ (by omega),ec i (by omega)]
     exact hti _ (hLm _ (by omega))
    ·rw [ec _ (by omega),el 0 (by omega)]
     have a1 := (hin _ (hCm (c.length - 1) (by omega))).1
     have a2 := (hin _ (hLm 0 (by omega))).2
     simp only []
     omega
   obtain ⟨pl,hp1,hp2⟩ := zo31 (zz17 hn) hn hk (j := 0) (by simp) (by
    rw [zr20 (w := w) (fun i hi => by rw [ec i (by omega)]) c.length (Nat.le_refl _),c1]
    show w * (p.length:Int) ≤ 6 * w
    rw [Int.mul_comm]
    exact Int.mul_le_mul_of_nonneg_right (by omega) (by omega))
   rcases zs16 (t := [(6 * w,true,())]) (c := c) (l := v) (by simp) (by omega) (by omega) hn with ⟨r,hr,hB⟩ | ⟨hr,hno⟩
   ·have hm0 := hB.min pl hp1
    have h0:r.2.2.1 = 0 := by rw [hB.mv]; omega
    have h8:lenI r.1 = (p.length:Int) := by rw [zh,hB.ok.l1,c1]
    rw [hr,Option.bind_some]
    simp only [h0,h8,beq_self_eq_true,cond_true,cond_false]
    rfl
   ·exact absurd hp1 (hno pl)
end
end Go.Ai.Sx
