/- Motion: the law of arrivals. -/
import Derived.Test.YtcokdbcdlaofbaaGreatMotSC
set_option linter.unusedSimpArgs false
set_option linter.unusedVariables false
set_option linter.unusedSectionVars false
namespace Go.Ai.Sx
def mxF (v:Nat → Int):Nat → Int
 | 0=>0
 | k + 1=>max (mxF v k) (v k)
theorem zm36 {v:Nat → Int}:∀ {k i:Nat},i < k → v i ≤ mxF v k
 | k + 1,i,h=>by
  rw [mxF]
  by_cases e:i = k
  ·subst e; omega
  ·have:=zm36 (v:=v) (k:=k) (i:=i) (by omega); omega
theorem zn36 {v:Nat → Int} {B:Int} (hB:0 ≤ B):∀ {k:Nat},(∀ i,i < k → v i ≤ B) → 0 ≤ mxF v k ∧ mxF v k ≤ B
 | 0,_=>by rw [mxF]; omega
 | k + 1,h=>by
  rw [mxF]
  have h1:=zn36 hB (k:=k) fun i hi=>h i (by omega)
  have h2:=h k (by omega)
  omega
def lgF (stops:List Int) (t:Train) (mx:Int) (gs:List Leg):(Int × Int) → Option ((Int × Int) ⊕ ((Int) ⊕ (Bool))):=(fun s77 =>
cond ((decide (s77.2 < (lenI gs)))) (Option.bind (idx gs s77.2) fun x84 =>
Option.bind (idx gs s77.2) fun x85 =>
Option.bind (idx stops ((w64 (s77.2 + 1)))) fun x102 =>
cond ((decide (x84.2.1 > x102))) (some (.inr ((.inr false)))) (Option.bind (idx stops ((w64 (s77.2 + 1)))) fun x105 =>
cond ((decide (x84.2.1 < (w64 (x105 - 1000))))) (some (.inr ((.inr false)))) (cond ((decide (x84.1 < 0))) (some (.inr ((.inr false)))) (Option.bind (remO x84.1 100) fun x110 =>
cond ((x110 != 0)) (some (.inr ((.inr false)))) (cond ((decide (x84.2.1 < s77.1))) (some (.inr ((.inr false)))) (cond ((x85.2.2.1.1 != (w64 ((w64 ((w64 ((w64 (x85.2.2.1.2.1 + x85.2.2.1.2.2.1)) + x85.2.2.1.2.2.2.1)) + x85.2.2.1.2.2.2.2.1)) + x85.2.2.1.2.2.2.2.2.1)))) (some (.inr ((.inr false)))) (cond ((decide ((w64 (x84.1 * (w64 ((min mx t.2.2.1) + 1)))) < (w64 (1000 * (w64 ((w64 (x84.2.1 - s77.1)) - 1))))))) (some (.inr ((.inr false)))) (some (.inl ((x84.2.1,(w64 (s77.2 + 1))))))))))))) (some (.inr ((.inl s77.1)))))
def cmF (gs hs:List Leg):Int → Option (Int ⊕ (Unit ⊕ Bool)):=(fun s143 =>
cond ((decide (s143 < (lenI hs)))) (Option.bind (idx hs s143) fun x148 =>
Option.bind (idx gs s143) fun x149 =>
cond ((x148 != x149)) (some (.inr ((.inr false)))) (some (.inl ((w64 (s143 + 1)))))) (some (.inr ((.inl (()))))))
section
variable {p:Plan} {way:List AMove} {t:Train} {st:Int} {stops:List Int} (R:RunOk p way t st stops)
include R
theorem zl40:iter (σ:=(Int × Int)) (τ:=(Int)) (fun s28 =>
cond ((decide (s28.2 < (lenI way)))) (Option.bind (idx way s28.2) fun x33 =>
Option.bind (idx p.2.1 x33.1) fun x34 =>
some (.inl (((max s28.1 x34.2.2.2.1),(w64 (s28.2 + 1)))))) (some (.inr s28.1))) big ((0,0)) = some (mxF (limAt p way) way.length):=by
  have hn:=R.hw.n
  have key:∀ (k i:Nat),i + k = way.length → Lp (σ:=(Int × Int)) (τ:=(Int)) (fun s28 =>
cond ((decide (s28.2 < (lenI way)))) (Option.bind (idx way s28.2) fun x33 =>
Option.bind (idx p.2.1 x33.1) fun x34 =>
some (.inl (((max s28.1 x34.2.2.2.1),(w64 (s28.2 + 1)))))) (some (.inr s28.1))) k (mxF (limAt p way) i,(i:Int)) (mxF (limAt p way) way.length):=by
    intro k
    induction k with
    | zero =>
      intro i hi
      have:i = way.length:=by omega
      subst this
      refine Lp.done ?_
      simp only [zb2,cond_false]
    | succ k ih =>
      intro i hi
      have hil:i < way.length:=by omega
      refine Lp.step ?_ (ih (i + 1) (by omega))
      simp only [zr1 hil,cond_true]
      rw [zf1 M0 hil,Option.bind_some,(zq11 R.hp R.hw hil).2.2,Option.bind_some,zc1 (by omega)]
      rfl
  exact (key way.length 0 (by omega)).big (by simp only [big]; omega)
theorem zg32 {gs:List Leg} (hgl:gs.length = stops.length - 1) {z:MotionState}:∀ (k i:Nat) (x:MotionState),i + k = gs.length → LgOk t (stp0 stops i) x → x.1 = 0 → drvL p way t st (stops.drop (i + 1)) x = some (gs.drop i,z) →
    Lp (lgF stops t (mxF (limAt p way) way.length) gs) k (placeS t x,(i:Int)) (.inl (placeS t z)) ∧ placeS t z ≤ wlS p way:=by
  have hn:=R.hn
  have hm:=R.ht.m
  have hmb:=zn36 (v:=limAt p way) (B:=50000) (by omega) (k:=way.length) (fun i hi=>(zq11 R.hp R.hw hi).1.2)
  intro k
  induction k with
  | zero =>
    intro i x hi hx hv hd
    have hi2:i = gs.length:=by omega
    rw [List.drop_of_length_le (by omega)] at hd
    unfold drvL at hd
    have hz:z = x:=by
      simp only [Option.some.injEq,Prod.mk.injEq] at hd
      exact hd.2.symm
    subst hz
    refine ⟨Lp.done ?_, ?_⟩
    · unfold lgF
      subst hi2
      simp only [zb2,cond_false]
    · have h1:=hx.s
      have h2:=R.la
      rw [show stops.length - 1 = i by omega] at h2
      omega
  | succ k ih =>
    intro i x hi hx hv hd
    have hil:i < gs.length:=by omega
    have hi1:i + 1 < stops.length:=by omega
    have hb:=zq22 R hi1
    have hb0:=zq22 R (i:=i) (by omega)
    have hup:=R.up i hi1
    have hle:stp0 stops (i + 1) ≤ wlS p way:=by
      have h1:=zt14 R (i:=i + 1) (j:=stops.length - 1) (by omega) (by omega)
      have h2:=R.la
      omega
    have hxn:=LgOk.up R hx (s':=stp0 stops (i + 1)) (by omega)
    rw [dropS R hi1] at hd
    unfold drvL at hd
    cases hl:legN p way t st (stp0 stops (i + 1)) 36000 0 (0,0,0,0,0,0,()) 0 0 x with
    | none=>rw [hl] at hd; cases hd
    | some gy =>
      obtain ⟨g,y⟩:=gy
      rw [hl] at hd
      simp only [] at hd
      cases hd2:drvL p way t st (stops.drop (i + 2)) y with
      | none=>rw [hd2] at hd; cases hd
      | some q =>
        obtain ⟨gs',z'⟩:=q
        rw [hd2] at hd
        simp only [Option.some.injEq,Prod.mk.injEq] at hd
        obtain ⟨hd3,rfl⟩:=hd
        rw [List.drop_eq_getElem_cons hil] at hd3
        obtain ⟨hg,hgs⟩:=List.cons.inj hd3
        obtain ⟨j,h1,h2,h3,h4,h5,h6,h7,h8,h9⟩:=ze32 R hle (mx:=mxF (limAt p way) way.length) (fun i hi=>zm36 hi) _ _ _ _ _ _ _ _ hxn hl
        have hspd:=zf32 R hxn h6 h8
        have hbal:=h9 ⟨by simp,0,by rw [hv]; rfl⟩
        rw [h4] at hbal
        have hbe:=hbal.end
        have hxs:=hx.s
        have hys:=h6.s
        have hpx:0 ≤ placeS t x:=by unfold placeS; exact Int.ediv_nonneg (by have:=hx.w; omega) (by omega)
        have hpy:placeS t x ≤ placeS t y:=by unfold placeS; exact Int.ediv_le_ediv (by omega) h7
        have hrec:=ih (i + 1) y (by omega) h6 h4 (by rw [show i + 1 + 1 = i + 2 by omega,hd2,hgs])
        refine ⟨Lp.step ?_ hrec.1,hrec.2⟩
        have e1:idx gs (i:Int) = some g:=by rw [zt9,List.getElem?_eq_getElem hil,hg]
        have e2:idx stops (w64 ((i:Int) + 1)) = some (stp0 stops (i + 1)):=by rw [zc1 (by omega)]; exact zf1 0 hi1
        have hsp1:=R.ht.sp
        have hM:0 ≤ min (mxF (limAt p way) way.length) t.2.2.1 ∧ min (mxF (limAt p way) way.length) t.2.2.1 ≤ 25000:=by omega
        have htm:g.1 = 100 * (j:Int):=by rw [h2]; omega
        have hrem:remO g.1 100 = some 0:=by
          unfold remO
          rw [if_neg (by omega),htm,Int.mul_tmod_right]
        have hmul:=zj4 (a:=g.1) (b:=min (mxF (limAt p way) way.length) t.2.2.1 + 1) (A:=3600000) (B:=25001) ⟨by omega,by omega⟩ ⟨by omega,by omega⟩
        have hq:¬ w64 (g.1 * w64 (min (mxF (limAt p way) way.length) t.2.2.1 + 1)) < w64 (1000 * w64 (w64 (g.2.1 - placeS t x) - 1)):=by
          rw [zh (n:=min (mxF (limAt p way) way.length) t.2.2.1 + 1) (by omega) (by omega),zh (n:=g.1 * _) (by omega) (by omega),zh (n:=g.2.1 - placeS t x) (by omega) (by omega),zh (n:=g.2.1 - placeS t x - 1) (by omega) (by omega),zh (n:=1000 * _) (by omega) (by omega),htm,h3]
          omega
        have hb2:(g.2.2.1.1 != w64 (w64 (w64 (w64 (g.2.2.1.2.1 + g.2.2.1.2.2.1) + g.2.2.1.2.2.2.1) + g.2.2.1.2.2.2.2.1) + g.2.2.1.2.2.2.2.2.1)) = false:=by
          rw [← hbe]; exact bne_self_eq_false _
        unfold lgF
        simp only [zr1 hil,cond_true,e1,e2,Option.bind_some,zh (n:=stp0 stops (i + 1) - 1000) (by omega) (by omega),decide_eq_false (show ¬ g.2.1 > stp0 stops (i + 1) by omega),decide_eq_false (show ¬ g.2.1 < stp0 stops (i + 1) - 1000 by omega),decide_eq_false (show ¬ g.1 < 0 by omega),hrem,show ((0:Int) != 0) = false from rfl,decide_eq_false (show ¬ g.2.1 < placeS t x by omega),hb2,decide_eq_false hq,cond_false]
        rw [zc1 (by omega),h3]
omit R in
theorem zt22:∀ {r:List Int} {x:MotionState} {gs:List Leg} {z:MotionState},drvL p way t st r x = some (gs,z) → ∀ k,∃ z',drvL p way t st (r.take k) x = some (gs.take k,z')
 | [],x,gs,z,h,k=>by
  unfold drvL at h
  cases h
  refine ⟨x, ?_⟩
  rw [List.take_nil,List.take_nil]; rfl
 | s :: r,x,gs,z,h,0=>⟨x,by rw [List.take_zero,List.take_zero]; rfl⟩
 | s :: r,x,gs,z,h,k + 1=>by
  unfold drvL at h
  cases hl:legN p way t st s 36000 0 (0,0,0,0,0,0,()) 0 0 x with
  | none=>rw [hl] at h; cases h
  | some gy =>
   rw [hl] at h
   simp only [] at h
   cases hd:drvL p way t st r gy.2 with
   | none=>rw [hd] at h; cases h
   | some q =>
    rw [hd] at h
    simp only [Option.some.injEq,Prod.mk.injEq] at h
    obtain ⟨rfl,rfl⟩:=h
    obtain ⟨z',hz⟩:=zt22 hd k
    refine ⟨z', ?_⟩
    rw [List.take_succ_cons,List.take_succ_cons]
    unfold drvL
    rw [hl]
    simp only []
    rw [hz]
theorem zs12 {q k:Nat} (hk:k < q):stp0 (stops.take q) k = stp0 stops k:=by
 unfold stp0
 simp only [List.getD,List.getElem?_take,if_pos hk]
theorem za24 (hs:stopsB p way t st stops = true) {q:Nat} (hq:2 ≤ q ∧ q ≤ stops.length):stopsB p way t st (stops.take q) = true:=by
 have hn:=R.hn
 have hlen:(stops.take q).length = q:=by rw [List.length_take]; omega
 unfold stopsB at hs ⊢
 simp only [Bool.and_eq_true] at hs ⊢
 obtain ⟨h1,h2,h3,h4,h5,h6,h7,h8⟩:=hs
 refine ⟨h1,h2,h3,h4, ?_, ?_, ?_, ?_⟩
 ·exact zo3.2 (by rw [zo1,hlen]; omega)
 ·rw [zs12 R (by omega)]; exact h6
 ·unfold risB
  rw [hlen]
  refine List.all_eq_true.2 fun k hk=>?_
  have hk:=List.mem_range.1 hk
  rw [zs12 R (by omega),zs12 R (by omega),decide_eq_false (by have:=R.up k (by omega); omega)]; rfl
 ·rw [hlen,zs12 R (by omega)]
  refine decide_eq_true ?_
  have e1:=zt14 R (i:=q - 1) (j:=stops.length - 1) (by omega) (by omega)
  have e2:=R.la
  omega
theorem zh32 {gs:List Leg} (h:legsS p way t st stops = some gs) {q:Nat} (hq:2 ≤ q ∧ q ≤ stops.length):legsS p way t st (stops.take q) = some (gs.take (q - 1)):=by
 unfold legsS at h ⊢
 cases hd:drvL p way t st (stops.drop 1) (st0 t stops) with
 | none=>rw [hd] at h; cases h
 | some v =>
  rw [hd] at h
  have hv:v.1 = gs:=by cases h; rfl
  obtain ⟨z',hz⟩:=zt22 (gs:=v.1) (z:=v.2) hd (q - 1)
  have e1:(stops.take q).drop 1 = (stops.drop 1).take (q - 1):=by rw [List.drop_take]
  have e2:st0 t (stops.take q) = st0 t stops:=by unfold st0; rw [zs12 R (by omega)]
  rw [e1,e2,hz,hv]; rfl
end
theorem zm40 {gs:List Leg} {q:Nat} (hq:q ≤ gs.length) (hl:gs.length ≤ 1000):iter (cmF gs (gs.take q)) big 0 = some (.inl ()):=by
  have hlen:(gs.take q).length = q:=by rw [List.length_take]; omega
  have h:=zp12 (f:=cmF gs (gs.take q)) (fun k=>(k:Int)) q (fun _=>true) (.inr false) (.inl ()) (s0:=0) rfl (by simp only [big]; omega) (fun i hi=>by
      have e1:idx gs (i:Int) = some (gs[i]'(by omega)):=by rw [zt9,List.getElem?_eq_getElem]
      have e2:idx (gs.take q) (i:Int) = some (gs[i]'(by omega)):=by rw [zt9,List.getElem?_take,if_pos hi,List.getElem?_eq_getElem]
      unfold cmF
      simp only [zr1 (show i < (gs.take q).length by omega),cond_true,e1,e2,Option.bind_some,bne_self_eq_false,cond_false,if_true]
      rw [zc1 (by omega)]) (by
      unfold cmF
      rw [show decide ((q:Int) < lenI (gs.take q)) = false by rw [zo1,hlen]; simp]; rfl)
  rw [h]
  simp
theorem zb24 (hk:za2 = some true) (p:Plan) (way:List AMove) (t:Train) (st:Int) (stops:List Int) (n:Int):zs4 p way t st stops n = some true:=by
 unfold zs4
 obtain ⟨b,hb,hbt⟩:=zs22 p way t stops
 rw [hb,Option.bind_some,hk]
 cases b with
 | false=>rfl
 | true =>
 obtain ⟨hwl,hsl⟩:=hbt rfl
 simp only [Bool.not_true,cond_false]
 rw [zp22 p way t st stops (by omega) (by omega)]
 cases hs:stopsB p way t st stops with
 | false=>rfl
 | true =>
 have R:=zx16 hs hwl
 obtain ⟨sb,hsb⟩:=zt25 R
 simp only [Option.bind_some,Bool.not_true,cond_false,hsb]
 cases sb with
 | true=>rfl
 | false =>
 rw [cond_false,zy16 R hs]
 cases hl:legsS p way t st stops with
 | none=>rfl
 | some gs =>
 have hn:=R.hn
 have hlen:=zv25 R hl
 have elen:(lenI gs != w64 (lenI stops - 1)) = false:=by
  rw [zo1,zo1,zh (by omega) (by omega),hlen]
  have:((stops.length - 1:Nat):Int) = (stops.length:Int) - 1:=by omega
  rw [this]; exact bne_self_eq_false _
 simp only [Option.bind_some,show ((0:Int) != 0) = false from rfl,cond_false,elen]
 rw [zl40 R,Option.bind_some,show idx stops 0 = some (stp0 stops 0) from zf1 (i:=0) 0 (by omega),Option.bind_some]
 have hd:∃ z,drvL p way t st (stops.drop (0 + 1)) (st0 t stops) = some (gs.drop 0,z):=by
  unfold legsS at hl
  rw [Nat.zero_add,List.drop_zero]
  cases h:drvL p way t st (stops.drop 1) (st0 t stops) with
  | none=>rw [h] at hl; cases hl
  | some v =>
   rw [h] at hl
   cases hl
   exact ⟨v.2,rfl⟩
 obtain ⟨z,hz⟩:=hd
 obtain ⟨hL,hzl⟩:=zg32 R hlen gs.length 0 (st0 t stops) (by omega) (zr22 R).2 rfl hz
 have hm:=R.ht.m
 have hp0:placeS t (st0 t stops) = stp0 stops 0:=by
  show 10 * t.1 * stp0 stops 0 / (10 * t.1) = stp0 stops 0
  rw [Int.mul_ediv_cancel_left _ (by omega)]
 rw [hp0,show ((0:Nat):Int) = 0 from rfl] at hL
 have hB:=hL.big (by simp only [big]; omega)
 unfold lgF at hB
 rw [hB,Option.bind_some,zz3]
 by_cases hn2:n < 2
 ·rw [decide_eq_true hn2]; rfl
 by_cases hn3:n > lenI stops
 ·rw [decide_eq_false hn2,decide_eq_true hn3]; rfl
 rw [decide_eq_false hn2,decide_eq_false hn3]
 rw [zo1] at hn3
 simp only [cond_false,Option.bind_some]
 obtain ⟨q,rfl⟩:∃ q:Nat,n = (q:Int):=⟨n.toNat,by omega⟩
 have hq:2 ≤ q ∧ q ≤ stops.length:=by omega
 have hsl2:slO stops 0 (q:Int) = some (stops.take q):=by
  rw [zy24 (by omega)]; simp
 have hst:=za24 R hs hq
 have R2:=zx16 hst hwl
 rw [hsl2,Option.bind_some,zy16 R2 hst,zh32 R hl hq]
 have elen2:(lenI (gs.take (q - 1)) != w64 ((q:Int) - 1)) = false:=by
  rw [zo1,List.length_take,zh (by omega) (by omega)]
  have:((min (q - 1) gs.length:Nat):Int) = (q:Int) - 1:=by omega
  rw [this]; exact bne_self_eq_false _
 simp only [Option.bind_some,show ((0:Int) != 0) = false from rfl,cond_false,elen2]
 have hC:=zm40 (gs:=gs) (q:=q - 1) (by omega) (by omega)
 unfold cmF at hC
 rw [hC,Option.bind_some,zz3]
 have hvw:validB p = true ∧ wayB p way = true:=by
  unfold stopsB at hs
  simp only [Bool.and_eq_true] at hs
  exact ⟨hs.1,hs.2.1⟩
 rw [ze14 p (by omega),hvw.1,hvw.2,zj36 R.hp R.hw]
 simp only [Bool.and_self,if_true,Option.bind_some,show ((0:Int) == 0) = true from rfl,cond_true,beq_self_eq_true,decide_eq_true hzl]
end Go.Ai.Sx
