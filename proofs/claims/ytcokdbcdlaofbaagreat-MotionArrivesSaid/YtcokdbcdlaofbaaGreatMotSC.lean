/- Motion: what a leg's record says. -/
import Derived.Test.YtcokdbcdlaofbaaGreatQ17
import Derived.Test.YtcokdbcdlaofbaaGreatQ15
set_option linter.unusedSimpArgs false
set_option linter.unusedVariables false
set_option linter.unusedSectionVars false
namespace Go.Ai.Sx
theorem w64_k (n:Int):∃ k:Int,w64 n = n + 18446744073709551616 * k ∧ -9223372036854775808 ≤ w64 n ∧ w64 n ≤ 9223372036854775807:=by
 refine ⟨(w64 n - n) / 18446744073709551616, ?_⟩
 simp only [w64,IntKind.wrap,IntKind.bits,IntKind.signed]
 simp
 omega
theorem zt35 {a b k:Int} (h:a = b + 18446744073709551616 * k):w64 a = w64 b:=by
 obtain ⟨k1,e1,r1,r2⟩:=w64_k a
 obtain ⟨k2,e2,r3,r4⟩:=w64_k b
 omega
def BalL (l:MotionLedger) (v:Int):Prop:=(-9223372036854775808 ≤ l.1 ∧ l.1 ≤ 9223372036854775807) ∧ ∃ k:Int,l.1 - l.2.1 - l.2.2.1 - l.2.2.2.1 - l.2.2.2.2.1 - l.2.2.2.2.2.1 = v * v + 18446744073709551616 * k
theorem BalL.add {l s:MotionLedger} {v u:Int} (h:BalL l v) (hs:u * u - v * v = s.1 - s.2.1 - s.2.2.1 - s.2.2.2.1 - s.2.2.2.2.1 - s.2.2.2.2.2.1):BalL (addL l s) u:=by
 obtain ⟨_,k,hk⟩:=h
 obtain ⟨k1,e1,r1,r2⟩:=w64_k (l.1 + s.1)
 obtain ⟨k2,e2,_⟩:=w64_k (l.2.1 + s.2.1)
 obtain ⟨k3,e3,_⟩:=w64_k (l.2.2.1 + s.2.2.1)
 obtain ⟨k4,e4,_⟩:=w64_k (l.2.2.2.1 + s.2.2.2.1)
 obtain ⟨k5,e5,_⟩:=w64_k (l.2.2.2.2.1 + s.2.2.2.2.1)
 obtain ⟨k6,e6,_⟩:=w64_k (l.2.2.2.2.2.1 + s.2.2.2.2.2.1)
 refine ⟨⟨r1,r2⟩,k + k1 - k2 - k3 - k4 - k5 - k6, ?_⟩
 unfold addL
 simp only [e1,e2,e3,e4,e5,e6]
 omega
theorem BalL.end {l:MotionLedger} (h:BalL l 0):l.1 = w64 (w64 (w64 (w64 (l.2.1 + l.2.2.1) + l.2.2.2.1) + l.2.2.2.2.1) + l.2.2.2.2.2.1):=by
 obtain ⟨hr,k,hk⟩:=h
 have e1:l.1 = w64 l.1:=(zh hr.1 hr.2).symm
 rw [zd20,show w64 (w64 (l.2.1 + l.2.2.1) + l.2.2.2.1) + l.2.2.2.2.1 + l.2.2.2.2.2.1 = w64 (w64 (l.2.1 + l.2.2.1) + l.2.2.2.1) + (l.2.2.2.2.1 + l.2.2.2.2.2.1) by omega,zd20,show w64 (l.2.1 + l.2.2.1) + l.2.2.2.1 + (l.2.2.2.2.1 + l.2.2.2.2.2.1) = w64 (l.2.1 + l.2.2.1) + (l.2.2.2.1 + (l.2.2.2.2.1 + l.2.2.2.2.2.1)) by omega,zd20]
 rw [e1]
 exact zt35 (k:=k) (by omega)
section
variable {p:Plan} {way:List AMove} {t:Train} {st:Int} {stops:List Int} (R:RunOk p way t st stops)
include R
theorem ze32 {stop mx:Int} (hS:stop ≤ wlS p way) (hmx:∀ i,i < way.length → limAt p way i ≤ mx):∀ (n:Nat) (tm:Int) (l:MotionLedger) (a b:Int) (x:MotionState) (g:Leg) (y:MotionState),LgOk t stop x → legN p way t st stop n tm l a b x = some (g,y) →
    ∃ j:Nat,j ≤ n ∧ g.1 = tm + 100 * j ∧ g.2.1 = placeS t y ∧ y.1 = 0 ∧ stop - placeS t y ≤ 1000 ∧ LgOk t stop y ∧ x.2.1 ≤ y.2.1 ∧ y.2.1 - x.2.1 ≤ j * ((min mx t.2.2.1 + 1) * t.1) ∧ (BalL l x.1 → BalL g.2.2.1 y.1):=by
  have hm:=R.ht.m
  have hb:=R.b
  have hl:=R.ht.len
  have fin:∀ (tm:Int) (l:MotionLedger) (a b:Int) (x:MotionState) (n:Nat),LgOk t stop x → arrB t stop x = true → ∃ j:Nat,j ≤ n ∧ ((tm,placeS t x,l,a,b,()):Leg).1 = tm + 100 * j ∧ ((tm,placeS t x,l,a,b,()):Leg).2.1 = placeS t x ∧ x.1 = 0 ∧ stop - placeS t x ≤ 1000 ∧ LgOk t stop x ∧ x.2.1 ≤ x.2.1 ∧ x.2.1 - x.2.1 ≤ j * ((min mx t.2.2.1 + 1) * t.1) ∧ (BalL l x.1 → BalL ((tm,placeS t x,l,a,b,()):Leg).2.2.1 x.1):=by
    intro tm l a b x n hx ha
    unfold arrB at ha
    rw [Bool.and_eq_true,beq_iff_eq,decide_eq_true_eq] at ha
    refine ⟨0,by omega,by simp,rfl,ha.1,ha.2,hx,by omega,by simp,fun h=>h⟩
  intro n
  induction n with
  | zero =>
    intro tm l a b x g y hx h
    unfold legN at h
    split at h
    · cases h; exact fin _ _ _ _ _ _ hx (by assumption)
    · cases h
  | succ n ih =>
    intro tm l a b x g y hx h
    unfold legN at h
    split at h
    · cases h; exact fin _ _ _ _ _ _ hx (by assumption)
    · cases hd:drvS p way t st stop x with
      | none=>rw [hd] at h; cases h
      | some d =>
        rw [hd] at h
        obtain ⟨hn1,hn2,hn3⟩:=zw16 R.hp R.hw R.ht R.hst (by omega) hx hd
        obtain ⟨j,h1,h2,h3,h4,h5,h6,h7,h8,h9⟩:=ih _ _ _ _ _ _ _ hn1 h
        have hv:=hn1.p
        have hsp:(stpS p way t st x d).1.1.1 ≤ (min mx t.2.2.1 + 1) * t.1:=by
          unfold fitsB at hn3
          rw [Bool.and_eq_true,decide_eq_true_eq,decide_eq_true_eq] at hn3
          obtain ⟨i,hi1,hi2⟩:=zh40 R.hp R.hw R.ht (f:=placeS t (stpS p way t st x d).1.1) (by omega)
          have hi3:=hmx i hi1
          have hi4:=zg40 R.hp R.hw R.ht (placeS t (stpS p way t st x d).1.1)
          have:=(Int.ediv_lt_iff_lt_mul (a:=(stpS p way t st x d).1.1.1) (b:=min mx t.2.2.1 + 1) (c:=t.1) (by omega)).1 (by omega)
          omega
        refine ⟨j + 1,by omega, ?_,h3,h4,h5,h6,by omega, ?_,fun hbl=>h9 (hbl.add ?_)⟩
        · rw [h2]; omega
        · rw [show ((j + 1:Nat):Int) = (j:Int) + 1 by omega,Int.add_mul,Int.one_mul]; omega
        · exact zt42 (t:=t) (st:=st) (d:=d) (s:=slS p way t x) (x:=x)
theorem zf32 {x y:MotionState} {s1 s2:Int} {j:Nat} {M:Int} (hx:LgOk t s1 x) (hy:LgOk t s2 y) (h1:y.2.1 - x.2.1 ≤ j * ((M + 1) * t.1)):1000 * (placeS t y - placeS t x - 1) ≤ 100 * j * (M + 1):=by
 have hm:=R.ht.m
 have hxw:=hx.w
 have hyw:=hy.w
 have a1:x.2.1 < (placeS t x + 1) * (10 * t.1):=(Int.ediv_lt_iff_lt_mul (by omega)).1 (by show placeS t x < placeS t x + 1; omega)
 have a2:placeS t y * (10 * t.1) ≤ y.2.1:=Int.ediv_mul_le _ (by omega)
 have a3:(10 * (placeS t y - placeS t x - 1)) * t.1 ≤ (j * (M + 1)) * t.1:=by
  have e1:(10 * (placeS t y - placeS t x - 1)) * t.1 = placeS t y * (10 * t.1) - (placeS t x + 1) * (10 * t.1):=by
   rw [← Int.sub_mul,show placeS t y - (placeS t x + 1) = placeS t y - placeS t x - 1 by omega,Int.mul_comm 10,Int.mul_assoc]
  rw [e1,Int.mul_assoc]
  omega
 have a4:=Int.le_of_mul_le_mul_right a3 (by omega)
 rw [Int.mul_assoc]
 omega
end
end Go.Ai.Sx
