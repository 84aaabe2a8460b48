/- Motion: a step,in plain numbers. -/
import Derived.Test.YtcokdbcdlaofbaaGreatQ13
import Derived.Test.YtcokdbcdlaofbaaGreatQ14
import Derived.KernelRfl
import Derived.Test.YtcokdbcdlaofbaaGreatQ7
set_option linter.unusedSimpArgs false
set_option linter.unusedVariables false
set_option linter.unusedSectionVars false
namespace Go.Ai.Sx
theorem zo42 {A:Type} (a b c e:A):idx [a,b,c,e] 2 = some c:=rfl
theorem zp42 {A:Type} (a b c e:A):idx [a,b,c,e] 3 = some e:=rfl
theorem zj4 {a b A B:Int} (ha:0 ≤ a ∧ a ≤ A) (hb:0 ≤ b ∧ b ≤ B):0 ≤ a * b ∧ a * b ≤ A * B:=⟨Int.mul_nonneg ha.1 hb.1,Int.mul_le_mul ha.2 hb.2 hb.1 (by omega)⟩
theorem zt30 {a b A B:Int} (ha:0 ≤ a ∧ a ≤ A) (hb:-B ≤ b ∧ b ≤ B):-(A * B) ≤ a * b ∧ a * b ≤ A * B:=by
 by_cases h:0 ≤ b
 ·have:=zj4 ha ⟨h,hb.2⟩
  omega
 ·have:=zj4 (b:=-b) (B:=B) ha ⟨by omega,by omega⟩
  rw [Int.mul_neg] at this
  omega
theorem zm5 {a b:Int} (ha:0 ≤ a ∧ a ≤ 9223372036854775807) (hb:0 < b):divO .i64 a b = some (a / b):=by
 unfold divO
 rw [if_neg (by omega),Int.tdiv_eq_ediv_of_nonneg ha.1]
 have h1:0 ≤ a / b:=Int.ediv_nonneg ha.1 (by omega)
 have h2:a / b ≤ a:=Int.ediv_le_self _ ha.1
 exact congrArg some (zh (by omega) (by omega))
theorem zl16 {a b A:Int} (ha:0 ≤ a ∧ a ≤ A * b) (hb:0 < b):0 ≤ a / b ∧ a / b ≤ A :=
 ⟨Int.ediv_nonneg ha.1 (by omega),by
  have:=Int.ediv_le_ediv hb ha.2
  rwa [Int.mul_ediv_cancel _ (by omega)] at this⟩
theorem zm39 {a A:Int} {b:Int} (hb:0 < b) (ha:-(A * b) ≤ a ∧ a ≤ A * b):-A ≤ a.tdiv b ∧ a.tdiv b ≤ A:=by
 by_cases h:0 ≤ a
 ·rw [Int.tdiv_eq_ediv_of_nonneg h]
  have:=zl16 (A:=A) ⟨h,ha.2⟩ hb
  omega
 ·have e:a.tdiv b = -((-a).tdiv b):=by rw [Int.neg_tdiv,Int.neg_neg]
  rw [e,Int.tdiv_eq_ediv_of_nonneg (by omega)]
  have:=zl16 (a:=-a) (A:=A) ⟨by omega,by omega⟩ hb
  omega
section
variable (t:Train) (st:Int)
def adhS:Int:=t.2.2.2.2.2.2.2.2.2.1.getD st.toNat 0 * t.1 * 981 / 100000
def pullS (v d:Int):Int:=if d ≤ 0 then 0 else if v > 0 then min (min (t.2.2.2.1 * d / 4) (adhS t st)) (1000 * t.2.2.2.2.2.1 / v) else min (t.2.2.2.1 * d / 4) (adhS t st)
def brakeS (d:Int):Int:=if d ≥ 0 then 0 else min (t.2.2.2.2.1 * (-d) / 4) (adhS t st)
def dragS (v:Int):Int:=t.2.2.2.2.2.2.1 + t.2.2.2.2.2.2.2.1 * v / 1000
def hillS (s:Int):Int:=(t.1 * s * 981).tdiv 100000
def netS (v d s:Int):Int:=pullS t st v d - brakeS t st d - dragS t v - hillS t s
end
structure Fin4 (t:Train) (st v d s:Int):Prop where
 st:0 ≤ st ∧ st < t.2.2.2.2.2.2.2.2.2.1.length
 v:0 ≤ v ∧ v ≤ 25000
 d:-4 ≤ d ∧ d ≤ 4
 s:-120 ≤ s ∧ s ≤ 120
section
variable {t:Train} {st v d s:Int} (ht:TrOk t) (h:Fin4 t st v d s)
include ht h
theorem zn39:1 ≤ t.2.2.2.2.2.2.2.2.2.1.getD st.toNat 0 ∧ t.2.2.2.2.2.2.2.2.2.1.getD st.toNat 0 ≤ 1000:=by
 have h1:=h.st
 have hlt:st.toNat < t.2.2.2.2.2.2.2.2.2.1.length:=by omega
 have:t.2.2.2.2.2.2.2.2.2.1.getD st.toNat 0 = t.2.2.2.2.2.2.2.2.2.1[st.toNat]:=by simp [List.getD,hlt]
 rw [this]
 exact ht.gr _ (List.getElem_mem hlt)
theorem adh_m:zo2 (t,st,()) = some (adhS t st) ∧ divO .i64 (w64 (w64 (t.2.2.2.2.2.2.2.2.2.1.getD st.toNat 0 * t.1) * 981)) 100000 = some (adhS t st) ∧ 0 ≤ adhS t st ∧ adhS t st ≤ 784800:=by
 have h1:=h.st
 have hg:=zn39 ht h
 have hm:=ht.m
 have b1:=zj4 (a:=t.2.2.2.2.2.2.2.2.2.1.getD st.toNat 0) (b:=t.1) (A:=1000) (B:=80000) ⟨by omega,hg.2⟩ ⟨by omega,hm.2⟩
 have e1:divO .i64 (w64 (w64 (t.2.2.2.2.2.2.2.2.2.1.getD st.toNat 0 * t.1) * 981)) 100000 = some (adhS t st):=by
  rw [zh (n:=t.2.2.2.2.2.2.2.2.2.1.getD st.toNat 0 * t.1) (by omega) (by omega),zh (by omega) (by omega),zm5 (by omega) (by omega)]
  rfl
 refine ⟨?_,e1,zl16 (A:=784800) ⟨by omega,by omega⟩ (by omega)⟩
 unfold zo2
 simp only []
 rw [zi6 (d:=0) h1.1 h1.2,Option.bind_some,e1,Option.bind_some]
theorem eff_m (hd:0 < d):divO .i64 (w64 (t.2.2.2.1 * d)) 4 = some (t.2.2.2.1 * d / 4) ∧ 0 ≤ t.2.2.2.1 * d / 4 ∧ t.2.2.2.1 * d / 4 ≤ 200000:=by
 have h1:=h.d
 have b1:=zj4 (a:=t.2.2.2.1) (b:=d) (A:=200000) (B:=4) ⟨by have:=ht.ef; omega,ht.ef.2⟩ ⟨by omega,h1.2⟩
 refine ⟨?_,zl16 (A:=200000) ⟨by omega,by omega⟩ (by omega)⟩
 rw [zh (by omega) (by omega),zm5 (by omega) (by omega)]
theorem brk_m (hd:d < 0):divO .i64 (w64 (t.2.2.2.2.1 * w64 (0 - d))) 4 = some (t.2.2.2.2.1 * (-d) / 4) ∧ 0 ≤ t.2.2.2.2.1 * (-d) / 4 ∧ t.2.2.2.2.1 * (-d) / 4 ≤ 200000:=by
 have h1:=h.d
 have b1:=zj4 (a:=t.2.2.2.2.1) (b:=-d) (A:=200000) (B:=4) ⟨by have:=ht.br; omega,ht.br.2⟩ ⟨by omega,by omega⟩
 refine ⟨?_,zl16 (A:=200000) ⟨by omega,by omega⟩ (by omega)⟩
 rw [zh (n:=0 - d) (by omega) (by omega),show (0:Int) - d = -d by omega,zh (by omega) (by omega),zm5 (by omega) (by omega)]
theorem pow_m (hv:0 < v):divO .i64 (w64 (1000 * t.2.2.2.2.2.1)) v = some (1000 * t.2.2.2.2.2.1 / v) ∧ 0 ≤ 1000 * t.2.2.2.2.2.1 / v:=by
 have _:=h
 have:=ht.po
 refine ⟨?_,Int.ediv_nonneg (by omega) (by omega)⟩
 rw [zh (by omega) (by omega),zm5 (by omega) (by omega)]
theorem zw21:zk2 (t,st,()) v d s = some (pullS t st v d) ∧ 0 ≤ pullS t st v d ∧ pullS t st v d ≤ 200000:=by
 obtain ⟨a1,_,a2,a3⟩:=adh_m ht h
 unfold zk2 pullS
 by_cases hd:d ≤ 0
 ·rw [decide_eq_true hd,if_pos hd]
  exact ⟨rfl,by omega,by omega⟩
 ·obtain ⟨e1,e2,e3⟩:=eff_m ht h (by omega)
  rw [decide_eq_false hd,if_neg hd,cond_false]
  simp only []
  rw [e1,Option.bind_some,a1,Option.bind_some]
  by_cases hv:v > 0
  ·obtain ⟨p1,p2⟩:=pow_m ht h hv
   rw [decide_eq_true hv,if_pos hv,cond_true,p1,Option.bind_some]
   exact ⟨rfl,by omega,by omega⟩
  ·rw [decide_eq_false hv,if_neg hv]
   exact ⟨rfl,by omega,by omega⟩
theorem zm16:zg2 (t,st,()) v d s = some (brakeS t st d) ∧ 0 ≤ brakeS t st d ∧ brakeS t st d ≤ 200000:=by
 obtain ⟨a1,_,a2,a3⟩:=adh_m ht h
 unfold zg2 brakeS
 by_cases hd:d ≥ 0
 ·rw [decide_eq_true hd,if_pos hd]
  exact ⟨rfl,by omega,by omega⟩
 ·obtain ⟨e1,e2,e3⟩:=brk_m ht h (by omega)
  rw [decide_eq_false hd,if_neg hd,cond_false]
  simp only []
  rw [e1,Option.bind_some,a1,Option.bind_some]
  exact ⟨rfl,by omega,by omega⟩
theorem drg_m:divO .i64 (w64 (t.2.2.2.2.2.2.2.1 * v)) 1000 = some (t.2.2.2.2.2.2.2.1 * v / 1000) ∧ w64 (t.2.2.2.2.2.2.1 + t.2.2.2.2.2.2.2.1 * v / 1000) = dragS t v ∧ 0 ≤ dragS t v ∧ dragS t v ≤ 350000:=by
 have b1:=zj4 (a:=t.2.2.2.2.2.2.2.1) (b:=v) (A:=10000) (B:=25000) ht.ri h.v
 have b2:=zl16 (a:=t.2.2.2.2.2.2.2.1 * v) (A:=250000) (b:=1000) ⟨by omega,by omega⟩ (by omega)
 have b3:=ht.re
 unfold dragS
 refine ⟨?_,zh (by omega) (by omega),by omega,by omega⟩
 rw [zh (by omega) (by omega),zm5 (by omega) (by omega)]
theorem zq42:zx2 (t,st,()) v d s = some (dragS t v):=by
 obtain ⟨e1,e2,_⟩:=drg_m ht h
 unfold zx2
 simp only []
 rw [e1,Option.bind_some,e2]
theorem hll_m:divO .i64 (w64 (w64 (t.1 * s) * 981)) 100000 = some (hillS t s) ∧ -94176 ≤ hillS t s ∧ hillS t s ≤ 94176:=by
 have hs:=h.s
 have b1:=zt30 (a:=t.1) (b:=s) (A:=80000) (B:=120) ⟨by have:=ht.m; omega,ht.m.2⟩ ⟨by omega,by omega⟩
 have b2:-94176 ≤ hillS t s ∧ hillS t s ≤ 94176:=zm39 (a:=t.1 * s * 981) (A:=94176) (b:=100000) (by omega) ⟨by omega,by omega⟩
 refine ⟨?_,b2⟩
 rw [zh (n:=t.1 * s) (by omega) (by omega),zh (by omega) (by omega)]
 unfold divO
 rw [if_neg (by omega)]
 show some (w64 (hillS t s)) = some (hillS t s)
 rw [zh (by omega) (by omega)]
theorem zr42:zy2 (t,st,()) v d s = some (hillS t s):=by
 unfold zy2
 simp only []
 rw [(hll_m ht h).1,Option.bind_some]
theorem all_m:zk4 (t,st,()) v d s = some [pullS t st v d,brakeS t st d,dragS t v,hillS t s]:=by
  unfold zk4
  have hL:Lp (fun s11:Int × List Int =>
      cond ((decide (s11.1 < 4))) (Option.bind (idx (([(fun x=>zk2 (t,st,()) x.1 x.2.1 x.2.2),(fun x=>zg2 (t,st,()) x.1 x.2.1 x.2.2),(fun x=>zx2 (t,st,()) x.1 x.2.1 x.2.2),(fun x=>zy2 (t,st,()) x.1 x.2.1 x.2.2)]:(List ((Int × Int × Int) → Option (Int))))) s11.1) fun x14 =>
      Option.bind (x14 ((v,d,s))) fun y15 =>
      Option.bind (idx s11.2 s11.1) fun x16 =>
      some (Sum.inl (((w64 (s11.1 + 1)),(s11.2).set (Int.toNat s11.1) y15)))) (some (Sum.inr s11.2))) 4 (0,List.replicate 4 (0:Int)) [pullS t st v d,brakeS t st d,dragS t v,hillS t s]:=by
    refine Lp.step (s':=(1,[pullS t st v d,0,0,0])) ?_ (Lp.step (s':=(2,[pullS t st v d,brakeS t st d,0,0])) ?_ (Lp.step (s':=(3,[pullS t st v d,brakeS t st d,dragS t v,0])) ?_ (Lp.step (s':=(4,[pullS t st v d,brakeS t st d,dragS t v,hillS t s])) ?_ (Lp.done ?_))))
    · show Option.bind (zk2 (t,st,()) v d s) _ = _
      rw [(zw21 ht h).1]; rfl
    · show Option.bind (zg2 (t,st,()) v d s) _ = _
      rw [(zm16 ht h).1]; rfl
    · simp only [decide_eq_true (show (2:Int) < 4 by omega),cond_true,zo42,Option.bind_some,zq42 ht h]
      rfl
    · simp only [decide_eq_true (show (3:Int) < 4 by omega),cond_true,zp42,Option.bind_some,zr42 ht h]
      rfl
    · rfl
  rw [hL.big (by simp only [big]; omega)]
  rfl
theorem za25:zr5 t v d s st = some (pullS t st v d,brakeS t st d,dragS t v,hillS t s):=by
 obtain ⟨_,a1,a2,a3⟩:=adh_m ht h
 obtain ⟨d1,d2,_⟩:=drg_m ht h
 have h1:=(hll_m ht h).1
 have hst:=h.st
 unfold zr5 pullS brakeS
 rw [zi6 (d:=0) hst.1 hst.2,Option.bind_some,a1,Option.bind_some]
 by_cases hd:d ≤ 0
 ·rw [decide_eq_false (show ¬ d > 0 by omega),if_pos hd,cond_false]
  by_cases hd2:d ≥ 0
  ·rw [decide_eq_false (show ¬ d < 0 by omega),if_pos hd2,cond_false,d1,Option.bind_some,h1,Option.bind_some,d2]
  ·rw [decide_eq_true (show d < 0 by omega),if_neg hd2,cond_true,(brk_m ht h (by omega)).1,Option.bind_some,d1,Option.bind_some,h1,Option.bind_some,d2]
 ·rw [decide_eq_true (show d > 0 by omega),if_neg hd,cond_true,(eff_m ht h (by omega)).1,Option.bind_some,if_pos (show d ≥ 0 by omega)]
  by_cases hv:v > 0
  ·rw [decide_eq_true hv,if_pos hv,cond_true,(pow_m ht h hv).1,Option.bind_some,decide_eq_false (show ¬ d < 0 by omega),cond_false,d1,Option.bind_some,h1,Option.bind_some,d2]
  ·rw [decide_eq_false hv,if_neg hv,cond_false,decide_eq_false (show ¬ d < 0 by omega),cond_false,d1,Option.bind_some,h1,Option.bind_some,d2]
end
def qS (t:Train) (st:Int) (x:MotionState) (d s:Int):Int:=x.1 + 100 * netS t st (x.1 / t.1) d s
def stayB (t:Train) (st:Int) (x:MotionState) (d s:Int):Bool:=decide (qS t st x d s < 0) || (x.1 == 0 && decide (netS t st (x.1 / t.1) d s ≤ 0))
def stepS (t:Train) (st:Int) (x:MotionState) (d s:Int):za4 × Bool :=
 if stayB t st x d s then (((0,x.2.1,()),(0,0,0,0,0,x.1 * x.1,()),(1000 * t.1 - 1) / (1000 * t.1),0,()),true)
 else (((qS t st x d s,x.2.1 + qS t st x d s,()),(200 * pullS t st (x.1 / t.1) d * qS t st x d s,200 * brakeS t st d * qS t st x d s,200 * dragS t (x.1 / t.1) * qS t st x d s,200 * hillS t s * qS t st x d s,10000 * netS t st (x.1 / t.1) d s * netS t st (x.1 / t.1) d s,0,()),
  (pullS t st (x.1 / t.1) d * qS t st x d s + 1000 * t.1 - 1) / (1000 * t.1),brakeS t st d * qS t st x d s * t.2.2.2.2.2.2.2.2.1 / (100000 * t.1),()),decide (qS t st x d s ≤ 25000 * t.1))
structure StOk (t:Train) (x:MotionState):Prop where
 p:0 ≤ x.1 ∧ x.1 ≤ 25000 * t.1
 w:0 ≤ x.2.1 ∧ x.2.1 ≤ 4000000000000000000
structure Fin3 (t:Train) (st d s:Int):Prop where
 st:0 ≤ st ∧ st < t.2.2.2.2.2.2.2.2.2.1.length
 d:-4 ≤ d ∧ d ≤ 4
 s:-120 ≤ s ∧ s ≤ 120
theorem Fin3.v {t:Train} {st d s:Int} (ht:TrOk t) (h:Fin3 t st d s) {x:MotionState} (hx:StOk t x):Fin4 t st (x.1 / t.1) d s :=
 ⟨h.st,zl16 ⟨hx.p.1,hx.p.2⟩ (by have:=ht.m; omega),h.d,h.s⟩
section
variable {t:Train} {st d s:Int} {x:MotionState} (ht:TrOk t) (h:Fin3 t st d s) (hx:StOk t x)
include ht h hx
theorem zp13:zr2 (t,st,()) x = some (x.1 / t.1) ∧ divO .i64 x.1 t.1 = some (x.1 / t.1):=by
 have _:=h
 have hm:=ht.m
 have hp:=hx.p
 have e:divO .i64 x.1 t.1 = some (x.1 / t.1):=zm5 ⟨hp.1,by omega⟩ (by omega)
 refine ⟨?_,e⟩
 unfold zr2
 simp only []
 rw [e,Option.bind_some]
omit h in
theorem zx8 (st:Int):zp (t,st,()) x = some (x.2.1 / (10 * t.1)) ∧ zu t x = some (x.2.1 / (10 * t.1)):=by
 have hm:=ht.m
 have hw:=hx.w
 have e:divO .i64 x.2.1 (w64 (10 * t.1)) = some (x.2.1 / (10 * t.1)):=by
  rw [zh (by omega) (by omega)]
  exact zm5 ⟨hw.1,by omega⟩ (by omega)
 unfold zp zu
 simp only []
 rw [e,Option.bind_some]
 exact ⟨rfl,rfl⟩
theorem zu30:-644176 ≤ netS t st (x.1 / t.1) d s ∧ netS t st (x.1 / t.1) d s ≤ 294176:=by
 have h4:=h.v ht hx
 have a:=(zw21 ht h4).2
 have b:=(zm16 ht h4).2
 have c:=(drg_m ht h4).2.2
 have e:=(hll_m ht h4).2
 unfold netS
 omega
theorem q_bd:qS t st x d s ≤ 2029417600:=by
 have:=zu30 ht h hx
 have hm:=ht.m
 have hp:=hx.p
 unfold qS
 omega
theorem zb25:zq1 (t,st,()) x d s = some (stepS t st x d s):=by
 have h4:=h.v ht hx
 obtain ⟨a1,a2,a3⟩:=zw21 ht h4
 obtain ⟨b1,b2,b3⟩:=zm16 ht h4
 obtain ⟨_,_,c2,c3⟩:=drg_m ht h4
 obtain ⟨_,e2,e3⟩:=hll_m ht h4
 have hn:=zu30 ht h hx
 have hq:=q_bd ht h hx
 have hm:=ht.m
 have hb:=ht.ba
 have hp:=hx.p
 have hw:=hx.w
 unfold zq1
 rw [(zp13 ht h hx).1,Option.bind_some,all_m ht h4,Option.bind_some]
 simp only [show ∀ (a b c e:Int),idx [a,b,c,e] 0 = some a from fun _ _ _ _=>rfl,show ∀ (a b c e:Int),idx [a,b,c,e] 1 = some b from fun _ _ _ _=>rfl,show ∀ (a b c e:Int),idx [a,b,c,e] 2 = some c from fun _ _ _ _=>rfl,show ∀ (a b c e:Int),idx [a,b,c,e] 3 = some e from fun _ _ _ _=>rfl,Option.bind_some]
 have w1:w64 (w64 (w64 (pullS t st (x.1 / t.1) d - brakeS t st d) - dragS t (x.1 / t.1)) - hillS t s) = netS t st (x.1 / t.1) d s:=by
  unfold netS
  rw [zh (n:=pullS t st (x.1 / t.1) d - brakeS t st d) (by omega) (by omega),zh (n:=_ - dragS t (x.1 / t.1)) (by omega) (by omega),zh (by omega) (by omega)]
 have w2:w64 (x.1 + w64 (100 * netS t st (x.1 / t.1) d s)) = qS t st x d s:=by
  unfold qS
  rw [zh (n:=100 * _) (by omega) (by omega),zh (by omega) (by omega)]
 have w3:w64 (1000 * t.1) = 1000 * t.1:=zh (by omega) (by omega)
 have w4:w64 (25000 * t.1) = 25000 * t.1:=zh (by omega) (by omega)
 have w5:w64 (100000 * t.1) = 100000 * t.1:=zh (by omega) (by omega)
 have w6:w64 (x.1 * x.1) = x.1 * x.1:=by
  have:=zj4 (a:=x.1) (b:=x.1) (A:=2000000000) (B:=2000000000) ⟨hp.1,by omega⟩ ⟨hp.1,by omega⟩
  exact zh (by omega) (by omega)
 simp only [w1,w2,w3,w4,w5,w6]
 unfold stepS
 have hst:(cond (decide (qS t st x d s < 0)) (some true) (cond (x.1 == 0) (some (decide (netS t st (x.1 / t.1) d s ≤ 0))) (some false)):Option Bool) = some (stayB t st x d s):=by
  unfold stayB
  cases decide (qS t st x d s < 0) <;> cases (x.1 == 0) <;> rfl
 rw [hst,Option.bind_some]
 cases hs:stayB t st x d s with
 | true =>
  simp only [cond_true,if_true,Int.mul_zero,Int.zero_mul,Int.add_zero,show w64 0 = 0 from rfl]
  rw [zh (n:=(0:Int) + 1000 * t.1) (by omega) (by omega),Int.zero_add,zh (n:=1000 * t.1 - 1) (by omega) (by omega),zm5 (by omega) (by omega),Option.bind_some,zm5 (by omega) (by omega),Option.bind_some,zh (n:=x.2.1) (by omega) (by omega),decide_eq_true (by omega),Int.zero_ediv]
 | false =>
  have hq0:0 ≤ qS t st x d s:=by
   unfold stayB at hs
   simp only [Bool.or_eq_false_iff,decide_eq_false_iff_not] at hs
   omega
  have m1:=zj4 (a:=pullS t st (x.1 / t.1) d) (b:=qS t st x d s) ⟨a2,a3⟩ ⟨hq0,hq⟩
  have m2:=zj4 (a:=brakeS t st d) (b:=qS t st x d s) ⟨b2,b3⟩ ⟨hq0,hq⟩
  have m3:=zj4 (a:=dragS t (x.1 / t.1)) (b:=qS t st x d s) ⟨c2,c3⟩ ⟨hq0,hq⟩
  have m4:=zt30 (a:=qS t st x d s) (b:=hillS t s) (B:=94176) ⟨hq0,hq⟩ ⟨e2,e3⟩
  rw [Int.mul_comm (qS t st x d s) (hillS t s)] at m4
  have m5:=zj4 (a:=brakeS t st d * qS t st x d s) (b:=t.2.2.2.2.2.2.2.2.1) ⟨m2.1,m2.2⟩ hb
  have m6:-414962718976000 ≤ netS t st (x.1 / t.1) d s * netS t st (x.1 / t.1) d s ∧ netS t st (x.1 / t.1) d s * netS t st (x.1 / t.1) d s ≤ 414962718976000:=by
   by_cases q:0 ≤ netS t st (x.1 / t.1) d s
   ·have:=zj4 (a:=netS t st (x.1 / t.1) d s) (b:=netS t st (x.1 / t.1) d s) (A:=644176) (B:=644176) ⟨q,by omega⟩ ⟨q,by omega⟩
    omega
   ·have:=zj4 (a:=-netS t st (x.1 / t.1) d s) (b:=-netS t st (x.1 / t.1) d s) (A:=644176) (B:=644176) ⟨by omega,by omega⟩ ⟨by omega,by omega⟩
    rw [Int.neg_mul_neg] at this
    omega
  simp only [cond_false,Bool.false_eq_true,if_false]
  rw [zh (n:=pullS t st (x.1 / t.1) d * qS t st x d s) (by omega) (by omega),zh (n:=_ + 1000 * t.1) (by omega) (by omega),zh (n:=_ - 1) (by omega) (by omega),zm5 (by omega) (by omega),Option.bind_some,
   zh (n:=brakeS t st d * qS t st x d s) (by omega) (by omega),zh (n:=brakeS t st d * qS t st x d s * t.2.2.2.2.2.2.2.2.1) (by omega) (by omega),zm5 (by omega) (by omega),Option.bind_some,
   zh (n:=x.2.1 + _) (by omega) (by omega),zh (n:=200 * pullS t st (x.1 / t.1) d) (by omega) (by omega),zh (n:=200 * brakeS t st d) (by omega) (by omega),zh (n:=200 * dragS t (x.1 / t.1)) (by omega) (by omega),zh (n:=200 * hillS t s) (by omega) (by omega),zh (n:=10000 * netS t st (x.1 / t.1) d s) (by omega) (by omega),
   zh (n:=200 * pullS t st (x.1 / t.1) d * qS t st x d s) (by rw [Int.mul_assoc]; omega) (by rw [Int.mul_assoc]; omega),zh (n:=200 * brakeS t st d * qS t st x d s) (by rw [Int.mul_assoc]; omega) (by rw [Int.mul_assoc]; omega),zh (n:=200 * dragS t (x.1 / t.1) * qS t st x d s) (by rw [Int.mul_assoc]; omega) (by rw [Int.mul_assoc]; omega),zh (n:=200 * hillS t s * qS t st x d s) (by rw [Int.mul_assoc]; omega) (by rw [Int.mul_assoc]; omega),zh (n:=10000 * netS t st (x.1 / t.1) d s * netS t st (x.1 / t.1) d s) (by rw [Int.mul_assoc]; omega) (by rw [Int.mul_assoc]; omega)]
end
end Go.Ai.Sx

/- Motion: couples. -/
namespace Go.Ai.Sx
section
variable {a b:Train} (ha:TrOk a) (hb:TrOk b)
include ha hb
end
end Go.Ai.Sx

/- Motion: braking. -/
namespace Go.Ai.Sx
def brk (t:Train) (st:Int) (sl:MotionState → Int):Nat → MotionState → List MotionState
 | 0,_=>[]
 | n + 1,x=>if x.1 = 0 then [] else if (stepS t st x (-4) (sl x)).2 then (stepS t st x (-4) (sl x)).1.1 :: brk t st sl n (stepS t st x (-4) (sl x)).1.1 else []
def foldG {σ τ X:Type} (g:σ → X → σ ⊕ τ):σ → List X → σ ⊕ τ
 | s,[]=>.inl s
 | s,y :: l=>match g s y with
  | .inl s'=>foldG g s' l
  | .inr t=>.inr t
theorem zk9 {t:Train} {st d s:Int} {x:MotionState} (ht:TrOk t) (h:Fin3 t st d s) (hx:0 ≤ x.1 ∧ x.1 ≤ 25000 * t.1) (hw:0 ≤ x.2.1 ∧ x.2.1 ≤ 4000000000000000000) (hok:(stepS t st x d s).2 = true) :
    (0 ≤ (stepS t st x d s).1.1.1 ∧ (stepS t st x d s).1.1.1 ≤ 25000 * t.1) ∧ (stepS t st x d s).1.1.2.1 = x.2.1 + (stepS t st x d s).1.1.1:=by
  have hm:=ht.m
  unfold stepS at *
  split
  · simp only []; omega
  · rename_i hs
    rw [if_neg hs] at hok
    have hok:qS t st x d s ≤ 25000 * t.1:=of_decide_eq_true hok
    unfold stayB at hs
    simp only [Bool.or_eq_true,decide_eq_true_eq,not_or] at hs
    exact ⟨⟨by show 0 ≤ qS t st x d s; omega,hok⟩,rfl⟩
theorem zn16 {σ τ:Type} {t:Train} {st:Int} {sl:MotionState → Int} {f:MotionState → Option Int} {step:σ → MotionState → Option (σ ⊕ τ)} {g:σ → MotionState → σ ⊕ τ} {W:Int} (ht:TrOk t) (hst:0 ≤ st ∧ st < t.2.2.2.2.2.2.2.2.2.1.length) (hW:W ≤ 4000000000000000000)
    (hf:∀ y:MotionState,0 ≤ y.1 ∧ y.1 ≤ 25000 * t.1 → 0 ≤ y.2.1 ∧ y.2.1 ≤ W → f y = some (sl y) ∧ -120 ≤ sl y ∧ sl y ≤ 120)
    (hg:∀ s (y:MotionState),0 ≤ y.1 ∧ y.1 ≤ 25000 * t.1 → 0 ≤ y.2.1 ∧ y.2.1 ≤ W → step s y = some (g s y))
    (s0:σ) (x:MotionState) (hx:0 ≤ x.1 ∧ x.1 ≤ 25000 * t.1) (hw:0 ≤ x.2.1 ∧ x.2.1 + 72000000000000 ≤ W) :
    ∃ z,zd2 step s0 x (t,st,()) f = some (foldG g s0 (brk t st sl 36000 x),z):=by
  unfold zd2
  have key:∀ (n k:Nat) (s:σ) (p w:Int),k + n = 36000 → 0 ≤ p ∧ p ≤ 25000 * t.1 → 0 ≤ w ∧ w + 2000000000 * n ≤ W →
      ∃ T:((σ ⊕ τ) × Int × Int) ⊕ ((σ ⊕ τ) × Int × Int),Lp (fun s20:Int × (σ ⊕ τ) × Int × Int =>
cond ((decide (s20.1 < 36000))) (cond ((s20.2.2.1 == 0)) (some (.inr ((.inr ((s20.2.1,s20.2.2.1,s20.2.2.2)))))) (Option.bind (f ((s20.2.2.1,s20.2.2.2,()))) fun y24 =>
Option.bind (zq1 (t,st,()) ((s20.2.2.1,s20.2.2.2,())) ((-4)) y24) fun y25 =>
cond ((!y25.2)) (some (.inr ((.inr ((s20.2.1,s20.2.2.1,s20.2.2.2)))))) (Option.bind (goL s20.2.1) fun s28 =>
Option.bind (step s28 y25.1.1) fun y29 =>
cond ((!(y29).isLeft)) (some (.inr ((.inr ((y29,y25.1.1.1,y25.1.1.2.1)))))) (some (.inl (((w64 (s20.1 + 1)),y29,y25.1.1.1,y25.1.1.2.1))))))) (some (.inr ((.inl ((s20.2.1,s20.2.2.1,s20.2.2.2))))))) n ((k:Int),.inl s,p,w) T ∧ (match T with | .inl b=>b.1 | .inr b=>b.1) = foldG g s (brk t st sl n (p,w,())):=by
    intro n
    induction n with
    | zero =>
      intro k s p w hk hp hw
      have:k = 36000:=by omega
      subst this
      exact ⟨.inl (.inl s,p,w),Lp.done rfl,rfl⟩
    | succ n ih =>
      intro k s p w hk hp hw
      by_cases h0:p = 0
      · subst h0
        refine ⟨.inr (.inl s,0,w),Lp.done ?_, ?_⟩
        · simp only [decide_eq_true (show (k:Int) < 36000 by omega),cond_true]; rfl
        · unfold brk
          rw [if_pos (show ((0,w,()):MotionState).1 = 0 from rfl)]; rfl
      · obtain ⟨f1,f2,f3⟩:=hf (p,w,()) hp ⟨hw.1,by show w ≤ W; omega⟩
        have hfin:Fin3 t st (-4) (sl (p,w,())):=⟨hst,by omega,⟨f2,f3⟩⟩
        have hso:StOk t (p,w,()):=⟨hp,⟨hw.1,by show w ≤ _; omega⟩⟩
        have hp0:(p == 0) = false:=by simpa using h0
        have hm:=ht.m
        unfold brk
        rw [if_neg (show ¬ ((p,w,()):MotionState).1 = 0 from h0)]
        cases hok:(stepS t st (p,w,()) (-4) (sl (p,w,()))).2 with
        | false =>
          refine ⟨.inr (.inl s,p,w),Lp.done ?_,rfl⟩
          simp only [decide_eq_true (show (k:Int) < 36000 by omega),cond_true,hp0,cond_false,f1,Option.bind_some,zb25 ht hfin hso,hok,Bool.not_false]
        | true =>
          obtain ⟨n1,n2⟩:=zk9 ht hfin hp ⟨hw.1,by show w ≤ _; omega⟩ hok
          have hn2:(stepS t st (p,w,()) (-4) (sl (p,w,()))).1.1.2.1 = w + (stepS t st (p,w,()) (-4) (sl (p,w,()))).1.1.1:=n2
          have hgs:=hg s (stepS t st (p,w,()) (-4) (sl (p,w,()))).1.1 n1 ⟨by omega,by omega⟩
          rw [if_pos rfl,foldG]
          cases hgg:g s (stepS t st (p,w,()) (-4) (sl (p,w,()))).1.1 with
          | inl s' =>
            obtain ⟨T,h1,h2⟩:=ih (k + 1) s' _ _ (by omega) n1 (show 0 ≤ (stepS t st (p,w,()) (-4) (sl (p,w,()))).1.1.2.1 ∧ (stepS t st (p,w,()) (-4) (sl (p,w,()))).1.1.2.1 + 2000000000 * (n:Int) ≤ W by omega)
            refine ⟨T,Lp.step ?_ h1,h2⟩
            simp only [decide_eq_true (show (k:Int) < 36000 by omega),cond_true,hp0,cond_false,f1,Option.bind_some,zb25 ht hfin hso,hok,Bool.not_true,goL,hgs,hgg,Sum.isLeft]
            rw [zc1 (by omega)]
          | inr tt =>
            refine ⟨.inr (.inr tt,(stepS t st (p,w,()) (-4) (sl (p,w,()))).1.1.1,(stepS t st (p,w,()) (-4) (sl (p,w,()))).1.1.2.1),Lp.done ?_,rfl⟩
            simp only [decide_eq_true (show (k:Int) < 36000 by omega),cond_true,hp0,cond_false,f1,Option.bind_some,zb25 ht hfin hso,hok,Bool.not_true,goL,hgs,hgg,Sum.isLeft,Bool.not_false]
  obtain ⟨T,h1,h2⟩:=key 36000 0 s0 x.1 x.2.1 (by omega) hx (by omega)
  rw [show ((0:Nat):Int) = 0 from rfl] at h1
  rw [h1.big (by simp only [big]; omega),Option.bind_some]
  cases T with
  | inl b =>
    refine ⟨(b.2.1,b.2.2,()), ?_⟩
    rw [zz3]
    simp only at h2
    rw [h2]
  | inr b =>
    refine ⟨(b.2.1,b.2.2,()), ?_⟩
    rw [zs19]
    simp only at h2
    rw [h2]
def lastS (x:MotionState) (l:List MotionState):MotionState:=l.getLastD x
def placeS (t:Train) (x:MotionState):Int:=x.2.1 / (10 * t.1)
def brakS (t:Train) (st:Int) (x:MotionState) (s:Int):Int × Bool:=(placeS t (lastS x (brk t st (fun _=>s) 36000 x)) - placeS t x,decide ((lastS x (brk t st (fun _=>s) 36000 x)).1 = 0))
theorem zf18 {τ:Type}:∀ (l:List MotionState) (x:MotionState),foldG (fun (_:Int × Int) (y:MotionState)=>(.inl (y.1,y.2.1):(Int × Int) ⊕ τ)) (x.1,x.2.1) l = .inl ((lastS x l).1,(lastS x l).2.1)
 | [],x=>rfl
 | y :: l,x=>by
  rw [foldG]
  have e:lastS x (y :: l) = lastS y l:=by unfold lastS; rw [List.getLastD_cons]
  rw [e]
  exact zf18 l y
theorem zv30 {t:Train} {st:Int} {sl:MotionState → Int} {W:Int} (ht:TrOk t) (hst:0 ≤ st ∧ st < t.2.2.2.2.2.2.2.2.2.1.length) (hW:W ≤ 4000000000000000000)
    (hf:∀ y:MotionState,0 ≤ y.1 ∧ y.1 ≤ 25000 * t.1 → 0 ≤ y.2.1 ∧ y.2.1 ≤ W → -120 ≤ sl y ∧ sl y ≤ 120):∀ (n:Nat) (x:MotionState),0 ≤ x.1 ∧ x.1 ≤ 25000 * t.1 → 0 ≤ x.2.1 ∧ x.2.1 + 2000000000 * n ≤ W → ∀ y ∈ brk t st sl n x,(0 ≤ y.1 ∧ y.1 ≤ 25000 * t.1) ∧ x.2.1 ≤ y.2.1 ∧ y.2.1 ≤ x.2.1 + 2000000000 * n
  | 0,x,_,_,y,hy=>by cases hy
  | n + 1,x,hx,hw,y,hy=>by
    unfold brk at hy
    split at hy
    · cases hy
    · split at hy
      · rename_i hok
        have hm:=ht.m
        obtain ⟨f2,f3⟩:=hf x hx ⟨hw.1,by omega⟩
        obtain ⟨n1,n2⟩:=zk9 ht ⟨hst,by omega,⟨f2,f3⟩⟩ hx ⟨hw.1,by omega⟩ hok
        rcases List.mem_cons.1 hy with rfl | hy
        · exact ⟨n1,by omega,by omega⟩
        · obtain ⟨k1,k2,k3⟩:=zv30 ht hst hW hf n _ n1 (by omega) y hy
          exact ⟨k1,by omega,by omega⟩
      · cases hy
theorem zc25 (x:MotionState) (l:List MotionState):lastS x l = x ∨ lastS x l ∈ l:=by
 unfold lastS
 cases l with
 | nil=>exact .inl rfl
 | cons y l=>right; rw [List.getLastD_cons]; exact List.getLastD_mem_cons ..
section
variable {t:Train} {st s:Int} {x:MotionState} (ht:TrOk t) (hst:0 ≤ st ∧ st < t.2.2.2.2.2.2.2.2.2.1.length) (hs:-120 ≤ s ∧ s ≤ 120) (hx:0 ≤ x.1 ∧ x.1 ≤ 25000 * t.1) (hw:0 ≤ x.2.1 ∧ x.2.1 ≤ 1000000000000000000)
include ht hst hs hx hw
theorem zo39:(0 ≤ (lastS x (brk t st (fun _=>s) 36000 x)).1 ∧ (lastS x (brk t st (fun _=>s) 36000 x)).1 ≤ 25000 * t.1) ∧ x.2.1 ≤ (lastS x (brk t st (fun _=>s) 36000 x)).2.1 ∧ (lastS x (brk t st (fun _=>s) 36000 x)).2.1 ≤ x.2.1 + 72000000000000:=by
 rcases zc25 x (brk t st (fun _=>s) 36000 x) with h | h
 ·rw [h]; exact ⟨hx,by omega,by omega⟩
 ·obtain ⟨a,b,c⟩:=zv30 (W:=4000000000000000000) ht hst (by omega) (fun _ _ _=>hs) 36000 x hx (by omega) _ h
  exact ⟨a,b,by omega⟩
theorem zd25 {y:MotionState} (h:0 ≤ y.2.1):0 ≤ placeS t y ∧ placeS t y ≤ y.2.1:=by
 have _:=hst
 have _:=hs
 have _:=hx
 have _:=hw
 have hm:=ht.m
 unfold placeS
 exact ⟨Int.ediv_nonneg h (by omega),Int.ediv_le_self _ h⟩
theorem zx21:zi2 (t,st,()) x s = some (brakS t st x s):=by
 obtain ⟨l1,l2,l3⟩:=zo39 ht hst hs hx hw
 unfold zi2 zp2
 obtain ⟨z,hz⟩:=zn16 (τ:=Unit) (σ:=Int × Int) (sl:=fun _=>s) (f:=fun x=>zt1 x s) (step:=fun _ (x4:MotionState)=>some (.inl ((x4.1,x4.2.1)))) (g:=fun _ y=>.inl (y.1,y.2.1)) (W:=4000000000000000000) ht hst (by omega) (fun y _ _=>⟨rfl,hs⟩) (fun _ _ _ _=>rfl) (x.1,x.2.1) x hx (by omega)
 rw [Option.bind_some]
 simp only []
 rw [hz,Option.bind_some,zf18]
 simp only [goL,Option.bind_some]
 rw [(zx8 (x:=((lastS x (brk t st (fun _=>s) 36000 x)).1,(lastS x (brk t st (fun _=>s) 36000 x)).2.1,())) ht ⟨l1,by simp only []; omega⟩ st).1,Option.bind_some,(zx8 (x:=x) ht ⟨hx,by omega⟩ st).1,Option.bind_some]
 have b1:=zd25 ht hst hs hx hw (y:=lastS x (brk t st (fun _=>s) 36000 x)) (by omega)
 have b2:=zd25 ht hst hs hx hw (y:=x) (by omega)
 have e1:(lastS x (brk t st (fun _=>s) 36000 x)).2.1 / (10 * t.1) = placeS t (lastS x (brk t st (fun _=>s) 36000 x)):=rfl
 have e2:x.2.1 / (10 * t.1) = placeS t x:=rfl
 simp only [e1,e2]
 rw [zh (by omega) (by omega)]
 unfold brakS
 have:((lastS x (brk t st (fun _=>s) 36000 x)).1 == 0) = decide ((lastS x (brk t st (fun _=>s) 36000 x)).1 = 0):=rfl
 rw [this]
end
end Go.Ai.Sx

/- Motion: braking and sight; more grip,a steeper way,less speed. -/
namespace Go.Ai.Sx
section
variable {t:Train} {st d s:Int} {x:MotionState} (ht:TrOk t) (h:Fin3 t st d s) (hx:StOk t x)
include ht h hx
theorem zt19:zh2 t x d s st = some ((stepS t st x d s).1.1,(stepS t st x d s).1.2.1,(stepS t st x d s).2):=by
 have h4:=h.v ht hx
 obtain ⟨a1,a2,a3⟩:=zw21 ht h4
 obtain ⟨b1,b2,b3⟩:=zm16 ht h4
 obtain ⟨_,_,c2,c3⟩:=drg_m ht h4
 obtain ⟨_,e2,e3⟩:=hll_m ht h4
 have hn:=zu30 ht h hx
 have hq:=q_bd ht h hx
 have hm:=ht.m
 have hp:=hx.p
 have hw:=hx.w
 unfold zh2
 rw [(zp13 ht h hx).2,Option.bind_some,za25 ht h4,Option.bind_some]
 simp only []
 have w1:w64 (w64 (w64 (pullS t st (x.1 / t.1) d - brakeS t st d) - dragS t (x.1 / t.1)) - hillS t s) = netS t st (x.1 / t.1) d s:=by
  unfold netS
  rw [zh (n:=pullS t st (x.1 / t.1) d - brakeS t st d) (by omega) (by omega),zh (n:=_ - dragS t (x.1 / t.1)) (by omega) (by omega),zh (by omega) (by omega)]
 have w2:w64 (x.1 + w64 (100 * netS t st (x.1 / t.1) d s)) = qS t st x d s:=by
  unfold qS
  rw [zh (n:=100 * _) (by omega) (by omega),zh (by omega) (by omega)]
 have w4:w64 (25000 * t.1) = 25000 * t.1:=zh (by omega) (by omega)
 have w6:w64 (x.1 * x.1) = x.1 * x.1:=by
  have:=zj4 (a:=x.1) (b:=x.1) (A:=2000000000) (B:=2000000000) ⟨hp.1,by omega⟩ ⟨hp.1,by omega⟩
  exact zh (by omega) (by omega)
 simp only [w1,w2,w4,w6]
 unfold stepS
 have hst:(cond (decide (qS t st x d s < 0)) (some true) (cond (x.1 == 0) (some (decide (netS t st (x.1 / t.1) d s ≤ 0))) (some false)):Option Bool) = some (stayB t st x d s):=by
  unfold stayB
  cases decide (qS t st x d s < 0) <;> cases (x.1 == 0) <;> rfl
 rw [hst,Option.bind_some]
 cases hs:stayB t st x d s with
 | true =>
  simp only [cond_true,if_true,Int.add_zero]
  rw [zh (n:=x.2.1) (by omega) (by omega),decide_eq_true (by omega)]
 | false =>
  have hq0:0 ≤ qS t st x d s:=by
   unfold stayB at hs
   simp only [Bool.or_eq_false_iff,decide_eq_false_iff_not] at hs
   omega
  have m1:=zj4 (a:=pullS t st (x.1 / t.1) d) (b:=qS t st x d s) ⟨a2,a3⟩ ⟨hq0,hq⟩
  have m2:=zj4 (a:=brakeS t st d) (b:=qS t st x d s) ⟨b2,b3⟩ ⟨hq0,hq⟩
  have m3:=zj4 (a:=dragS t (x.1 / t.1)) (b:=qS t st x d s) ⟨c2,c3⟩ ⟨hq0,hq⟩
  have m4:=zt30 (a:=qS t st x d s) (b:=hillS t s) (B:=94176) ⟨hq0,hq⟩ ⟨e2,e3⟩
  rw [Int.mul_comm (qS t st x d s) (hillS t s)] at m4
  have m6:-414962718976000 ≤ netS t st (x.1 / t.1) d s * netS t st (x.1 / t.1) d s ∧ netS t st (x.1 / t.1) d s * netS t st (x.1 / t.1) d s ≤ 414962718976000:=by
   by_cases q:0 ≤ netS t st (x.1 / t.1) d s
   ·have:=zj4 (a:=netS t st (x.1 / t.1) d s) (b:=netS t st (x.1 / t.1) d s) (A:=644176) (B:=644176) ⟨q,by omega⟩ ⟨q,by omega⟩
    omega
   ·have:=zj4 (a:=-netS t st (x.1 / t.1) d s) (b:=-netS t st (x.1 / t.1) d s) (A:=644176) (B:=644176) ⟨by omega,by omega⟩ ⟨by omega,by omega⟩
    rw [Int.neg_mul_neg] at this
    omega
  simp only [cond_false,Bool.false_eq_true,if_false]
  rw [zh (n:=x.2.1 + _) (by omega) (by omega),zh (n:=200 * pullS t st (x.1 / t.1) d) (by omega) (by omega),zh (n:=200 * brakeS t st d) (by omega) (by omega),zh (n:=200 * dragS t (x.1 / t.1)) (by omega) (by omega),zh (n:=200 * hillS t s) (by omega) (by omega),zh (n:=10000 * netS t st (x.1 / t.1) d s) (by omega) (by omega),
   zh (n:=200 * pullS t st (x.1 / t.1) d * qS t st x d s) (by rw [Int.mul_assoc]; omega) (by rw [Int.mul_assoc]; omega),zh (n:=200 * brakeS t st d * qS t st x d s) (by rw [Int.mul_assoc]; omega) (by rw [Int.mul_assoc]; omega),zh (n:=200 * dragS t (x.1 / t.1) * qS t st x d s) (by rw [Int.mul_assoc]; omega) (by rw [Int.mul_assoc]; omega),zh (n:=200 * hillS t s * qS t st x d s) (by rw [Int.mul_assoc]; omega) (by rw [Int.mul_assoc]; omega),zh (n:=10000 * netS t st (x.1 / t.1) d s * netS t st (x.1 / t.1) d s) (by rw [Int.mul_assoc]; omega) (by rw [Int.mul_assoc]; omega)]
theorem zs42:zq3 t x d s st = some ((stepS t st x d s).1.2.2.1,(stepS t st x d s).1.2.2.2.1):=by
 have h4:=h.v ht hx
 obtain ⟨a1,a2,a3⟩:=zw21 ht h4
 obtain ⟨b1,b2,b3⟩:=zm16 ht h4
 have hq:=q_bd ht h hx
 have hm:=ht.m
 have hb:=ht.ba
 unfold zq3
 rw [(zp13 ht h hx).2,Option.bind_some,za25 ht h4,Option.bind_some,zt19 ht h hx,Option.bind_some]
 simp only []
 have w3:w64 (1000 * t.1) = 1000 * t.1:=zh (by omega) (by omega)
 have w5:w64 (100000 * t.1) = 100000 * t.1:=zh (by omega) (by omega)
 rw [w3,w5]
 unfold stepS
 cases hs:stayB t st x d s with
 | true =>
  simp only [if_true,Int.mul_zero,Int.zero_mul,Int.zero_add,show w64 0 = 0 from rfl]
  rw [zh (n:=1000 * t.1) (by omega) (by omega),zh (n:=1000 * t.1 - 1) (by omega) (by omega),zm5 (by omega) (by omega),Option.bind_some,zm5 (by omega) (by omega),Option.bind_some,Int.zero_ediv]
 | false =>
  have hq0:0 ≤ qS t st x d s:=by
   unfold stayB at hs
   simp only [Bool.or_eq_false_iff,decide_eq_false_iff_not] at hs
   omega
  have m1:=zj4 (a:=pullS t st (x.1 / t.1) d) (b:=qS t st x d s) ⟨a2,a3⟩ ⟨hq0,hq⟩
  have m2:=zj4 (a:=brakeS t st d) (b:=qS t st x d s) ⟨b2,b3⟩ ⟨hq0,hq⟩
  have m5:=zj4 (a:=brakeS t st d * qS t st x d s) (b:=t.2.2.2.2.2.2.2.2.1) ⟨m2.1,m2.2⟩ hb
  simp only [Bool.false_eq_true,if_false]
  rw [zh (n:=pullS t st (x.1 / t.1) d * qS t st x d s) (by omega) (by omega),zh (n:=_ + 1000 * t.1) (by omega) (by omega),zh (n:=_ - 1) (by omega) (by omega),zm5 (by omega) (by omega),Option.bind_some,
   zh (n:=brakeS t st d * qS t st x d s) (by omega) (by omega),zh (n:=brakeS t st d * qS t st x d s * t.2.2.2.2.2.2.2.2.1) (by omega) (by omega),zm5 (by omega) (by omega),Option.bind_some]
end
def fineB (t:Train) (x:MotionState) (d s st:Int):Bool:=trB t && (inB x.1 0 (25000 * t.1) && inB x.2.1 0 10000000000000000 && (inB d (-4) 4 && (inB s (-120) 120 && inB st 0 (t.2.2.2.2.2.2.2.2.2.1.length - 1))))
structure FineS (t:Train) (x:MotionState) (d s st:Int):Prop where
 tr:TrOk t
 p:0 ≤ x.1 ∧ x.1 ≤ 25000 * t.1
 w:0 ≤ x.2.1 ∧ x.2.1 ≤ 10000000000000000
 f:Fin3 t st d s
theorem zw30 {t:Train} {x:MotionState} {d s st:Int}:fineB t x d s st = true ↔ FineS t x d s st:=by
 unfold fineB
 simp only [Bool.and_eq_true,zj16,zo3]
 constructor
 ·rintro ⟨a,⟨b,c⟩,e,f,g⟩
  exact ⟨a,b,c,⟨by omega,e,f⟩⟩
 ·rintro ⟨a,b,c,⟨e,f,g⟩⟩
  exact ⟨a,⟨b,c⟩,f,g,by omega⟩
theorem w25 {t:Train} (ht:TrOk t):w64 (25000 * t.1) = 25000 * t.1:=zh (by have:=ht.m; omega) (by have:=ht.m; omega)
theorem wlen {t:Train} (ht:TrOk t):w64 (lenI t.2.2.2.2.2.2.2.2.2.1 - 1) = t.2.2.2.2.2.2.2.2.2.1.length - 1:=by
 have:=ht.gl
 rw [zo1,zh (by omega) (by omega)]
theorem zy21 (t:Train) (st:Int):zc5 t st = some (if trB t && inB st 0 (t.2.2.2.2.2.2.2.2.2.1.length - 1) then (some (t,st,()),true) else (none,false)):=by
 unfold zc5
 rw [zr34]
 cases h:trB t with
 | false=>rfl
 | true =>
  have ht:=zj16.1 h
  simp only [if_true,Option.bind_some,show ((0:Int) != 0) = false from rfl,cond_false,mwithin,wlen ht,Bool.true_and]
  cases inB st 0 (t.2.2.2.2.2.2.2.2.2.1.length - 1) <;> rfl
theorem zz21 {t:Train} {x:MotionState} {d s st:Int} (h:FineS t x d s st):zy4 t x d s st = some (some (t,st,()),true):=by
 have h1:=zw30.2 h
 unfold fineB at h1
 simp only [Bool.and_eq_true] at h1
 obtain ⟨a,⟨b,c⟩,e,f,g⟩:=h1
 unfold zy4 zz4
 rw [zy21,a,g]
 simp only [Bool.true_and,if_true,Option.bind_some,cond_true,mwithin,w25 h.tr,b,c,e,f]
end Go.Ai.Sx

/- Motion: the laws of steps and of the ledger. -/
namespace Go.Ai.Sx
theorem zp39 {p f:Int}:(p + 100 * f) * (p + 100 * f) - p * p = 200 * f * (p + 100 * f) - 10000 * f * f:=by
 have e1:(p + 100 * f) * (p + 100 * f) = p * p + 200 * (p * f) + 10000 * (f * f):=by
  rw [Int.add_mul,Int.mul_add,Int.mul_add,show p * (100 * f) = 100 * (p * f) by rw [Int.mul_left_comm],show 100 * f * p = 100 * (p * f) by rw [Int.mul_assoc,Int.mul_comm f p],show 100 * f * (100 * f) = 10000 * (f * f) by rw [Int.mul_assoc,Int.mul_left_comm f 100 f]; omega]
  omega
 have e2:200 * f * (p + 100 * f) = 200 * (p * f) + 20000 * (f * f):=by
  rw [Int.mul_add,show 200 * f * p = 200 * (p * f) by rw [Int.mul_assoc,Int.mul_comm f p],show 200 * f * (100 * f) = 20000 * (f * f) by rw [Int.mul_assoc,Int.mul_left_comm f 100 f]; omega]
 have e3:10000 * f * f = 10000 * (f * f):=Int.mul_assoc ..
 omega
theorem zt42 {t:Train} {st d s:Int} {x:MotionState}:(stepS t st x d s).1.1.1 * (stepS t st x d s).1.1.1 - x.1 * x.1 = (stepS t st x d s).1.2.1.1 - (stepS t st x d s).1.2.1.2.1 - (stepS t st x d s).1.2.1.2.2.1 - (stepS t st x d s).1.2.1.2.2.2.1 - (stepS t st x d s).1.2.1.2.2.2.2.1 - (stepS t st x d s).1.2.1.2.2.2.2.2.1:=by
 unfold stepS
 split
 ·simp only []; omega
 ·simp only []
  have:=zp39 (p:=x.1) (f:=netS t st (x.1 / t.1) d s)
  have e:x.1 + 100 * netS t st (x.1 / t.1) d s = qS t st x d s:=rfl
  rw [e] at this
  rw [this]
  have e2:200 * netS t st (x.1 / t.1) d s * qS t st x d s = 200 * pullS t st (x.1 / t.1) d * qS t st x d s - 200 * brakeS t st d * qS t st x d s - 200 * dragS t (x.1 / t.1) * qS t st x d s - 200 * hillS t s * qS t st x d s:=by
   unfold netS
   rw [← Int.sub_mul,← Int.sub_mul,← Int.sub_mul]
   congr 1
   omega
  rw [e2]
  omega
end Go.Ai.Sx

/- Motion: the laws of braking and of sight; more grip,a steeper way,less speed. -/
namespace Go.Ai.Sx
theorem zg18 (x y:MotionState) (l:List MotionState):lastS x (y :: l) = lastS y l:=by unfold lastS; rw [List.getLastD_cons]
theorem zs34 {t:Train} {st:Int} {sl:MotionState → Int} {x:MotionState} (h:x.1 = 0):∀ n,brk t st sl n x = []
 | 0=>rfl
 | n + 1=>by rw [brk,if_pos h]
section
variable {t:Train} {st s:Int} (ht:TrOk t) (hst:0 ≤ st ∧ st < t.2.2.2.2.2.2.2.2.2.1.length) (hs:-120 ≤ s ∧ s ≤ 120)
include ht hst hs
end
theorem zo16 {t:Train} {x:MotionState} {s st:Int} (h:FineS t x 0 s st):zw3 t x s st = some (if (brakS t st x s).2 then ((brakS t st x s).1,0) else (0,4)):=by
 unfold zw3
 rw [zz21 h,Option.bind_some]
 simp only [Bool.not_true,cond_false,Option.bind_some]
 rw [zx21 h.tr h.f.st h.f.s h.p ⟨h.w.1,by have:=h.w; omega⟩,Option.bind_some]
 cases (brakS t st x s).2 <;> rfl
def sightF (ok:Int → Bool):Nat → Nat
 | 0=>0
 | n + 1=>if ok ((n + 1:Nat):Int) then n + 1 else sightF ok n
theorem za22 (ok:Int → Bool):∀ n,sightF ok n ≤ n
 | 0=>Nat.le_refl 0
 | n + 1=>by
  unfold sightF
  split
  ·exact Nat.le_refl _
  ·have:=za22 ok n; omega
theorem zb22 (ok:Int → Bool):∀ n,sightF ok n = 0 ∨ ok (sightF ok n) = true
 | 0=>.inl rfl
 | n + 1=>by
  unfold sightF
  split
  ·rename_i h; exact .inr h
  ·exact zb22 ok n
theorem zc22 (ok:Int → Bool):∀ n j,sightF ok n < j → j ≤ n → ok (j:Int) = false
 | 0,j,h1,h2=>by omega
 | n + 1,j,h1,h2=>by
  unfold sightF at h1
  split at h1
  ·omega
  ·rename_i h
   by_cases e:j = n + 1
   ·subst e
    cases q:ok ((n + 1:Nat):Int) with
    | true=>exact absurd q h
    | false=>rfl
   ·exact zc22 ok n j h1 (by omega)
def okS (t:Train) (st s dist:Int) (v:Int):Bool:=(brakS t st (v * t.1,0,()) s).2 && decide ((brakS t st (v * t.1,0,()) s).1 ≤ dist)
theorem vm_bd {t:Train} (ht:TrOk t) {v:Int} (hv:0 ≤ v ∧ v ≤ 25000):(0 ≤ v * t.1 ∧ v * t.1 ≤ 25000 * t.1) ∧ w64 (v * t.1) = v * t.1:=by
 have hm:=ht.m
 have h1:=Int.mul_nonneg hv.1 (show 0 ≤ t.1 by omega)
 have h2:=Int.mul_le_mul_of_nonneg_right hv.2 (show 0 ≤ t.1 by omega)
 exact ⟨⟨h1,h2⟩,zh (by omega) (by omega)⟩
section
variable {t:Train} {st s dist:Int} (ht:TrOk t) (hst:0 ≤ st ∧ st < t.2.2.2.2.2.2.2.2.2.1.length) (hs:-120 ≤ s ∧ s ≤ 120)
include ht hst hs
theorem zj27 {ρ:Type} {f:Int → Option (Int ⊕ (Unit ⊕ ρ))} (r:Int → ρ) (hf:∀ v,0 < v → v ≤ 25000 → f v = some (if okS t st s dist v then .inr (.inr (r v)) else .inl (v - 1))) (h0:f 0 = some (.inr (.inl ()))) :
    ∀ n:Nat,n ≤ 25000 → Lp f n (n:Int) (if sightF (okS t st s dist) n = 0 then .inl () else .inr (r (sightF (okS t st s dist) n))):=by
  have _:=ht
  have _:=hst
  have _:=hs
  intro n
  induction n with
  | zero=>intro _; exact Lp.done h0
  | succ n ih =>
    intro hn
    have h1:=hf ((n + 1:Nat):Int) (by omega) (by omega)
    unfold sightF
    cases hk:okS t st s dist ((n + 1:Nat):Int) with
    | true =>
      rw [hk] at h1
      simp only [if_true]
      rw [if_neg (by omega)]
      exact Lp.done h1
    | false =>
      rw [hk] at h1
      simp only [Bool.false_eq_true,if_false]
      refine Lp.step (s':=(n:Int)) ?_ (ih (by omega))
      rw [h1]
      simp only [Bool.false_eq_true,if_false]
      congr 2
      omega
theorem zq39 (hd:0 ≤ dist ∧ dist ≤ 1000000):zp5 t s st dist = some (((sightF (okS t st s dist) t.2.2.1.toNat:Nat):Int),0):=by
  have hm:=ht.m
  have hsp:=ht.sp
  have hf0:FineS t (0,0,()) 0 s st:=⟨ht,by simp only []; omega,by simp only []; omega,⟨hst,by omega,hs⟩⟩
  unfold zp5
  rw [zz21 hf0,Option.bind_some]
  simp only [Bool.not_true,cond_false,mwithin,Option.bind_some,zo3.2 hd]
  have hl:=zj27 (ρ:=Int × Int) (dist:=dist) ht hst hs (f:=fun s15=>cond ((decide (s15 > 0))) (Option.bind (zi2 (t,st,()) ((((w64 (s15 * t.1)),0,()):MotionState)) s) fun y19 =>
cond (y19.2) (cond ((decide (y19.1 ≤ dist))) (some (.inr ((.inr ((s15,0)))))) (some (.inl ((w64 (s15 - 1)))))) (some (.inl ((w64 (s15 - 1)))))) (some (.inr ((.inl (())))))) (fun v=>(v,0)) (fun v h1 h2=>by
      obtain ⟨b1,b2⟩:=vm_bd ht (v:=v) ⟨by omega,h2⟩
      simp only [decide_eq_true (show v > 0 by omega),cond_true,b2]
      rw [zx21 (x:=(v * t.1,0,())) ht hst hs b1 (by simp only []; omega),Option.bind_some,zh (by omega) (by omega)]
      unfold okS
      cases (brakS t st (v * t.1,0,()) s).2
      · rfl
      · cases decide ((brakS t st (v * t.1,0,()) s).1 ≤ dist) <;> rfl) rfl t.2.2.1.toNat (by omega)
  rw [Int.toNat_of_nonneg (by omega)] at hl
  rw [hl.big (by simp only [big]; omega),Option.bind_some]
  split
  · rename_i h; rw [h,zz3]; rfl
  · rw [zs19]
end
end Go.Ai.Sx

/- Motion: more grip,a steeper way and less speed make no braking way longer; the chapter's examples. -/
namespace Go.Ai.Sx
theorem ze25 {t:Train} {st d s:Int} {x:MotionState} (hp:0 < x.1) (hm:0 < t.1):(stepS t st x d s).1.1.1 = max 0 (qS t st x d s) ∧ (stepS t st x d s).1.1.2.1 = x.2.1 + max 0 (qS t st x d s) ∧ (stepS t st x d s).2 = decide (max 0 (qS t st x d s) ≤ 25000 * t.1):=by
 unfold stepS
 have hx:(x.1 == 0) = false:=by rw [beq_eq_false_iff_ne]; omega
 by_cases hq:qS t st x d s < 0
 ·have hs:stayB t st x d s = true:=by unfold stayB; rw [decide_eq_true hq]; rfl
  rw [if_pos hs]
  refine ⟨by simp only []; omega,by simp only []; omega, ?_⟩
  rw [decide_eq_true (by omega)]
 ·have hs:¬ stayB t st x d s = true:=by unfold stayB; rw [decide_eq_false hq,hx]; simp
  rw [if_neg hs]
  rw [Int.max_eq_right (by omega)]
  exact ⟨rfl,rfl,rfl⟩
theorem zr39 {t:Train} {st s:Int} (ht:TrOk t) (hst:0 ≤ st ∧ st < t.2.2.2.2.2.2.2.2.2.1.length) (hs:-120 ≤ s ∧ s ≤ 120) {n:Nat} {x:MotionState} (hx:0 ≤ x.1 ∧ x.1 ≤ 25000 * t.1) (hw:0 ≤ x.2.1 ∧ x.2.1 + 2000000000 * n ≤ 4000000000000000000):x.2.1 ≤ (lastS x (brk t st (fun _=>s) n x)).2.1:=by
 rcases zc25 x (brk t st (fun _=>s) n x) with h | h
 ·rw [h]; exact Int.le_refl _
 ·exact (zv30 (W:=4000000000000000000) ht hst (by omega) (fun _ _ _=>hs) n x hx hw _ h).2.1
theorem zf25 {t u:Train} {st su s r:Int} (ht:TrOk t) (hu:TrOk u) (hst:0 ≤ st ∧ st < t.2.2.2.2.2.2.2.2.2.1.length) (hsu:0 ≤ su ∧ su < u.2.2.2.2.2.2.2.2.2.1.length) (hs:-120 ≤ s ∧ s ≤ 120) (hr:-120 ≤ r ∧ r ≤ 120) (hm:u.1 = t.1)
    (hF:∀ v v',netS u su v' (-4) r ≤ netS t st v (-4) s):∀ (n:Nat) (x y:MotionState),0 ≤ x.1 ∧ x.1 ≤ 25000 * t.1 → 0 ≤ y.1 → y.1 ≤ x.1 → 0 ≤ x.2.1 ∧ x.2.1 + 2000000000 * n ≤ 4000000000000000000 → 0 ≤ y.2.1 → y.2.1 ≤ x.2.1 →
      (lastS x (brk t st (fun _=>s) n x)).1 = 0 → (lastS y (brk u su (fun _=>r) n y)).1 = 0 ∧ (lastS y (brk u su (fun _=>r) n y)).2.1 ≤ (lastS x (brk t st (fun _=>s) n x)).2.1
  | 0,x,y,hx,hy0,hy,hwx,hwy0,hwy,h=>by
    have h:x.1 = 0:=h
    exact ⟨show y.1 = 0 by omega,hwy⟩
  | n + 1,x,y,hx,hy0,hy,hwx,hwy0,hwy,h=>by
    have hmt:=ht.m
    have hge:=zr39 (n:=n + 1) ht hst hs hx hwx
    by_cases y0:y.1 = 0
    · rw [zs34 y0]
      exact ⟨y0,Int.le_trans hwy hge⟩
    · have x0:x.1 ≠ 0:=by omega
      obtain ⟨a1,a2,a3⟩:=ze25 (t:=t) (st:=st) (d:=-4) (s:=s) (x:=x) (by omega) (by omega)
      obtain ⟨b1,b2,b3⟩:=ze25 (t:=u) (st:=su) (d:=-4) (s:=r) (x:=y) (by omega) (by omega)
      have hq:qS u su y (-4) r ≤ qS t st x (-4) s:=by
        have:=hF (x.1 / t.1) (y.1 / u.1)
        unfold qS
        omega
      have ex:brk t st (fun _=>s) (n + 1) x = if (stepS t st x (-4) s).2 = true then (stepS t st x (-4) s).1.1 :: brk t st (fun _=>s) n (stepS t st x (-4) s).1.1 else []:=by rw [brk,if_neg x0]
      have ey:brk u su (fun _=>r) (n + 1) y = if (stepS u su y (-4) r).2 = true then (stepS u su y (-4) r).1.1 :: brk u su (fun _=>r) n (stepS u su y (-4) r).1.1 else []:=by rw [brk,if_neg y0]
      rw [ex] at h ⊢
      rw [ey]
      by_cases hok:(stepS t st x (-4) s).2 = true
      · have hle:max 0 (qS t st x (-4) s) ≤ 25000 * t.1:=by rw [a3] at hok; exact of_decide_eq_true hok
        have hok':(stepS u su y (-4) r).2 = true:=by rw [b3]; exact decide_eq_true (by rw [hm]; omega)
        rw [if_pos hok,zg18] at h ⊢
        rw [if_pos hok',zg18]
        exact zf25 ht hu hst hsu hs hr hm hF n _ _ (by rw [a1]; omega) (by rw [b1]; omega) (by rw [a1,b1]; omega) (by rw [a2]; omega) (by rw [b2]; omega) (by rw [a2,b2]; omega) h
      · rw [if_neg hok] at h
        exact absurd h x0
theorem zk27 {t u:Train} {st su s r:Int} (ht:TrOk t) (hu:TrOk u) (hst:0 ≤ st ∧ st < t.2.2.2.2.2.2.2.2.2.1.length) (hsu:0 ≤ su ∧ su < u.2.2.2.2.2.2.2.2.2.1.length) (hs:-120 ≤ s ∧ s ≤ 120) (hr:-120 ≤ r ∧ r ≤ 120) (hm:u.1 = t.1)
    (hF:∀ v v',netS u su v' (-4) r ≤ netS t st v (-4) s) {p q:Int} (hp:0 ≤ p ∧ p ≤ 25000 * t.1) (hq:0 ≤ q ∧ q ≤ p) (h:(brakS t st (p,0,()) s).2 = true):(brakS u su (q,0,()) r).2 = true ∧ (brakS u su (q,0,()) r).1 ≤ (brakS t st (p,0,()) s).1:=by
  have hmt:=ht.m
  unfold brakS at h ⊢
  simp only [decide_eq_true_eq] at h ⊢
  obtain ⟨k1,k2⟩:=zf25 ht hu hst hsu hs hr hm hF 36000 (p,0,()) (q,0,()) hp hq.1 hq.2 (by simp only []; omega) (by simp only []; omega) (by simp only []; omega) h
  refine ⟨k1, ?_⟩
  unfold placeS
  simp only [Int.zero_ediv,Int.sub_zero]
  rw [hm]
  exact Int.ediv_le_ediv (by omega) k2
def tE:Train:=(1000,5000,10000,2000,1000,1000000,0,0,50,[1000,10],())
theorem tE_ok:TrOk tE:=zj16.1 (by decide +kernel)
theorem kE3:zw3 tE (1000000,0,()) 0 0 = some (450,0):=by kernel_rfl
theorem kE4:zw3 tE (999000,0,()) 0 0 = some (449,0):=by kernel_rfl
theorem kE:brakS tE 0 (1000000,0,()) 0 = (450,true) ∧ (brakS tE 0 (999000,0,()) 0).2 = true ∧ (brakS tE 0 (999000,0,()) 0).1 ≤ 449:=by
 have ht:=tE_ok
 have f1:FineS tE (1000000,0,()) 0 0 0:=⟨ht,by decide,by decide,⟨by decide,by decide,by decide⟩⟩
 have f2:FineS tE (999000,0,()) 0 0 0:=⟨ht,by decide,by decide,⟨by decide,by decide,by decide⟩⟩
 have h1:=kE3
 have h2:=kE4
 rw [zo16 f1] at h1
 rw [zo16 f2] at h2
 refine ⟨?_, ?_⟩
 ·split at h1
  ·rename_i h
   simp only [Option.some.injEq,Prod.mk.injEq,and_true] at h1
   exact Prod.ext h1 h
  ·cases h1
 ·split at h2
  ·rename_i h
   simp only [Option.some.injEq,Prod.mk.injEq,and_true] at h2
   exact ⟨h,by omega⟩
  ·cases h2
theorem kE1:zf6 tE (0,0,()) 4 0 0 = some ((200000,200000,()),(80000000000,0,0,0,40000000000,0,()),0):=by kernel_rfl
theorem kE2:zf6 tE (1000000,0,()) 0 100 0 = some ((901900,901900,()),(0,0,0,176952780000,9623610000,0,()),0):=by kernel_rfl
theorem kE6:ze2 ([((0,0,()),1,[(0,false,())],0,()),((100000,0,()),1,[(0,true,())],0,())],[(0,1,[],8000,0,())],()) [(0,false,())] tE 0 [5000,7000] = some ([(2500,7000,(2880000000000,2405000000000,0,0,475000000000,0,()),3200,725,())],0):=by kernel_rfl
theorem kE7:zo7 = some (tE,([((0,0,()),1,[(0,false,())],0,()),((100000,0,()),1,[(0,true,())],0,())],[(0,1,[],8000,0,())],())):=by kernel_rfl
theorem kE5:zp5 tE 0 0 449 = some (999,0):=by
 have ht:=tE_ok
 have hst:(0:Int) ≤ 0 ∧ (0:Int) < tE.2.2.2.2.2.2.2.2.2.1.length:=by decide
 rw [zq39 ht hst (by omega) (by omega)]
 have hv:sightF (okS tE 0 0 449) tE.2.2.1.toNat = 999:=by
  obtain ⟨v,hv⟩:∃ v,v = sightF (okS tE 0 0 449) tE.2.2.1.toNat:=⟨_,rfl⟩
  have v1:=za22 (okS tE 0 0 449) tE.2.2.1.toNat
  have v2:=zb22 (okS tE 0 0 449) tE.2.2.1.toNat
  have v3:=zc22 (okS tE 0 0 449) tE.2.2.1.toNat
  rw [← hv] at v1 v2 v3 ⊢
  have h10:tE.2.2.1.toNat = 10000:=rfl
  rw [h10] at v1 v3
  obtain ⟨q1,q2,q3⟩:=kE
  by_cases hlt:v < 999
  ·have:=v3 999 hlt (by omega)
   unfold okS at this
   rw [show ((999:Nat):Int) * tE.1 = 999000 from rfl,q2,decide_eq_true q3] at this
   cases this
  ·by_cases hgt:999 < v
   ·exfalso
    rcases v2 with q | q
    ·omega
    ·unfold okS at q
     rw [Bool.and_eq_true,decide_eq_true_eq] at q
     obtain ⟨b1,b2⟩:=vm_bd ht (v:=(v:Int)) ⟨by omega,by omega⟩
     obtain ⟨m1,m2⟩:=zk27 ht ht hst hst (s:=0) (r:=0) (by omega) (by omega) rfl (fun a b=>by
      unfold netS dragS
      rw [show pullS tE 0 a (-4) = 0 from if_pos (by omega),show pullS tE 0 b (-4) = 0 from if_pos (by omega),show tE.2.2.2.2.2.2.2.1 = 0 from rfl,Int.zero_mul,Int.zero_mul]
      exact Int.le_refl _) (p:=(v:Int) * tE.1) (q:=1000000) b1 ⟨by omega,by
       have:tE.1 = 1000:=rfl
       rw [this]; omega⟩ q.1
     rw [q1] at m2
     have:(450:Int) ≤ (brakS tE 0 ((v:Int) * tE.1,0,()) 0).1:=m2
     omega
   ·omega
 rw [hv]; rfl
theorem known3:za2 = some true:=by
 unfold za2
 rw [kE7,Option.bind_some]
 simp only []
 rw [kE1,Option.bind_some,kE2,Option.bind_some,kE3,Option.bind_some,kE5,Option.bind_some,kE6,Option.bind_some]
 rfl
end Go.Ai.Sx

/- The root that math.Sqrt begins with: in range. -/
namespace Go.Ai.Sx
open Ieee
theorem zu23 {n drop:Nat} (neg:Bool):Toward.even.cut neg n drop ≤ n / (1 <<< min drop (n.log2 + 2)) + 1 ∧ n / (1 <<< min drop (n.log2 + 2)) ≤ Toward.even.cut neg n drop:=by
 unfold Toward.cut
 simp only
 generalize (decide ((1 <<< min drop (n.log2 + 2)) < 2 * (n % (1 <<< min drop (n.log2 + 2)))) || (1 <<< min drop (n.log2 + 2)) == 2 * (n % (1 <<< min drop (n.log2 + 2))) && n / (1 <<< min drop (n.log2 + 2)) % 2 == 1) = b
 cases b <;> simp
theorem zd14 {mag:Nat} {place:Int} (h0:0 < mag) (h1:-1000 ≤ place + mag.log2) (h2:place + mag.log2 ≤ 1000) :
    ∃ m e,double.read (double.nearest false mag place) = .number false m e ∧ m < 2 ^ 53 ∧ 0 < m ∧ place + mag.log2 - 52 ≤ e ∧ e ≤ place + mag.log2 - 51:=by
  obtain ⟨L,hL⟩:∃ L,L = place + mag.log2:=⟨_,rfl⟩
  rw [← hL] at h1 h2 ⊢
  have hfb:double.fractionBits = 52:=rfl
  have hlp:double.leastPlace = -1074:=rfl
  have hbi:double.binade = 4503599627370496:=rfl
  have hir:double.infRung = 9218868437227405312:=rfl
  have hsw:double.signWeight = 9223372036854775808:=rfl
  have hlast:max (place + mag.log2 - (double.fractionBits:Int)) double.leastPlace = L - 52:=by
    rw [hfb,hlp,← hL]
    omega
  have hm0:mag ≠ 0:=by omega
  have hlo:2 ^ mag.log2 ≤ mag:=Nat.log2_self_le hm0
  have hhi:mag < 2 ^ (mag.log2 + 1):=Nat.lt_log2_self
  -- what is kept
  obtain ⟨kept,hk⟩:∃ k,k = Toward.even.cut false (mag <<< (place - (L - 52)).toNat) ((L - 52) - place).toNat:=⟨_,rfl⟩
  have hkb:2 ^ 52 ≤ kept ∧ kept ≤ 2 ^ 53:=by
    have hc:=zu23 (n:=mag <<< (place - (L - 52)).toNat) (drop:=((L - 52) - place).toNat) false
    rw [← hk] at hc
    by_cases hp:place ≤ L - 52
    · have e1:(place - (L - 52)).toNat = 0:=by omega
      have e2:((L - 52) - place).toNat = mag.log2 - 52:=by omega
      rw [e1,Nat.shiftLeft_zero,e2,Nat.min_eq_left (by omega),Nat.one_shiftLeft] at hc
      have hq:52 ≤ mag.log2:=by omega
      have hlo':2 ^ 52 ≤ mag / 2 ^ (mag.log2 - 52):=by
        rw [Nat.le_div_iff_mul_le (Nat.two_pow_pos _),← Nat.pow_add]
        rw [show 52 + (mag.log2 - 52) = mag.log2 by omega]
        exact hlo
      have hhi':mag / 2 ^ (mag.log2 - 52) < 2 ^ 53:=by
        rw [Nat.div_lt_iff_lt_mul (Nat.two_pow_pos _),← Nat.pow_add]
        rw [show 53 + (mag.log2 - 52) = mag.log2 + 1 by omega]
        exact hhi
      omega
    · have e1:(place - (L - 52)).toNat = 52 - mag.log2:=by omega
      have e2:((L - 52) - place).toNat = 0:=by omega
      rw [e1,e2,Nat.zero_min,Nat.one_shiftLeft,Nat.pow_zero,Nat.div_one,Nat.shiftLeft_eq] at hc
      have hlo':2 ^ 52 ≤ mag * 2 ^ (52 - mag.log2):=by
        have:=Nat.mul_le_mul_right (2 ^ (52 - mag.log2)) hlo
        rw [← Nat.pow_add,show mag.log2 + (52 - mag.log2) = 52 by omega] at this
        exact this
      have hhi':mag * 2 ^ (52 - mag.log2) < 2 ^ 53:=by
        have:=Nat.mul_lt_mul_of_pos_right hhi (Nat.two_pow_pos (52 - mag.log2))
        rw [← Nat.pow_add,show mag.log2 + 1 + (52 - mag.log2) = 53 by omega] at this
        exact this
      omega
  have hn:double.nearest false mag place = (L - 52 + 1074).toNat * 4503599627370496 + kept:=by
    unfold Format.nearest
    rw [if_neg hm0]
    simp only [hlast]
    simp only [← hk,hlp,hbi,hir]
    unfold Format.word
    rw [if_neg (by simp),Nat.min_eq_left]
    · rw [show L - 52 - -1074 = L - 52 + 1074 by omega]
    · omega
  obtain ⟨w,hw⟩:∃ w,w = double.nearest false mag place:=⟨_,rfl⟩
  rw [← hw] at hn ⊢
  obtain ⟨a,ha⟩:∃ a,a = (L - 52 + 1074).toNat:=⟨_,rfl⟩
  rw [← ha] at hn
  have haL:(a:Int) = L + 1022:=by omega
  unfold Format.read
  simp only [hsw,hbi,hir,hlp]
  have d0:w / 9223372036854775808 % 2 = 0:=by omega
  have d1:w % 9223372036854775808 = w:=by omega
  rw [d1,d0,if_neg (by omega),if_pos (by omega)]
  by_cases hk3:kept = 2 ^ 53
  · refine ⟨_,_,rfl,by omega,by omega,by omega,by omega⟩
  · refine ⟨_,_,rfl,by omega,by omega,by omega,by omega⟩
theorem zp11 (n:Nat):∀ todo root,root * root ≤ n → Datum.rootFrom n todo root * Datum.rootFrom n todo root ≤ n
 | 0,root,h=>h
 | todo + 1,root,h=>by
  unfold Datum.rootFrom
  simp only
  split
  ·rename_i q; exact zp11 n todo _ q
  ·exact zp11 n todo _ h
theorem zx30 {n:Int} (h0:0 ≤ n) (hn:n < 2 ^ 50):∃ r k,FloatKind.f64.format.sqrt (FloatKind.f64.nearest n) = some r ∧ f2i r = some k ∧ 0 ≤ k ∧ k < 2 ^ 30:=by
 by_cases hz:n = 0
 ·subst hz
  exact ⟨0,0,by decide +kernel,by decide +kernel,by omega,by omega⟩
 have hnn:FloatKind.f64.nearest n = double.nearest false n.natAbs 0:=by
  unfold FloatKind.nearest FloatKind.encode FloatKind.format Format.write
  simp only [decide_eq_false (show ¬ n < 0 by omega)]
 have hpos:0 < n.natAbs:=by omega
 have hlog:n.natAbs.log2 ≤ 49:=by
  have:n.natAbs < 2 ^ 50:=by omega
  have:=(Nat.log2_lt (by omega:n.natAbs ≠ 0)).2 this
  omega
 obtain ⟨m1,e1,hr1,b1,b2,b3,b4⟩:=zd14 (place:=0) hpos (by omega) (by omega)
 have hlm:m1.log2 ≤ 52:=by
  have:=(Nat.log2_lt (by omega:m1 ≠ 0)).2 b1
  omega
 -- the root
 have hfb:double.fractionBits = 52:=rfl
 obtain ⟨mag,place,hroot,c0,c1,c2⟩:∃ mag place,(Datum.number false m1 e1).root (double.fractionBits + 2) = some (.number false mag place) ∧ 0 < mag ∧ -1000 ≤ place + (mag.log2:Int) ∧ place + (mag.log2:Int) ≤ 27:=by
  unfold Datum.root
  simp only [hfb]
  rw [if_neg (by omega),if_neg (by simp)]
  obtain ⟨more,hmore⟩:∃ more,more = 2 * (52 + 2) - m1.log2 + ((e1 - (2 * (52 + 2) - m1.log2:Nat)) % 2).toNat:=⟨_,rfl⟩
  rw [← hmore]
  have hm2:56 ≤ more ∧ more ≤ 2 * (52 + 2) - m1.log2 + 1:=by omega
  obtain ⟨whole,hw⟩:∃ whole,whole = Datum.rootFrom (m1 <<< more) ((m1 <<< more).log2 / 2 + 1) 0:=⟨_,rfl⟩
  have hsq:=zp11 (m1 <<< more) ((m1 <<< more).log2 / 2 + 1) 0 (Nat.zero_le _)
  rw [← hw] at hsq ⊢
  have hb:m1 <<< more < 2 ^ 110:=by
   rw [Nat.shiftLeft_eq]
   have hm:m1 < 2 ^ (m1.log2 + 1):=Nat.lt_log2_self
   have:=Nat.mul_lt_mul_of_pos_right hm (Nat.two_pow_pos more)
   rw [← Nat.pow_add] at this
   exact Nat.lt_of_lt_of_le this (Nat.pow_le_pow_right (by omega) (by omega))
  have hwb:whole < 2 ^ 55:=by
   apply Classical.byContradiction
   intro q
   have h1:2 ^ 55 ≤ whole:=by omega
   have:=Nat.mul_le_mul h1 h1
   rw [← Nat.pow_add] at this
   have h2:(2:Nat) ^ (55 + 55) = 2 ^ 110:=rfl
   omega
  obtain ⟨dl,hdl⟩:∃ dl,dl = (whole * whole != m1 <<< more).toNat:=⟨_,rfl⟩
  rw [← hdl]
  have hd1:dl ≤ 1:=by rw [hdl]; cases (whole * whole != m1 <<< more) <;> simp
  have hp0:0 < 2 * whole + dl:=by
   by_cases q:whole = 0
   ·have:m1 <<< more ≠ 0:=by rw [Nat.shiftLeft_eq]; have:=Nat.mul_pos b2 (Nat.two_pow_pos more); omega
    have:(whole * whole != m1 <<< more) = true:=by rw [q]; simp; omega
    rw [hdl,this]; simp
   ·omega
  have hl2:(2 * whole + dl).log2 ≤ 56:=by
   have:=(Nat.log2_lt (by omega:2 * whole + dl ≠ 0)).2 (show 2 * whole + dl < 2 ^ 57 by omega)
   omega
  exact ⟨_,_,rfl,hp0,by omega,by omega⟩
 obtain ⟨m3,e3,hr3,d1,d2,d3,d4⟩:=zd14 (place:=place) c0 c1 (by omega)
 refine ⟨double.nearest false mag place,((m3 / (1 <<< min (-e3).toNat (m3.log2 + 2)):Nat):Int), ?_, ?_,Int.natCast_nonneg _, ?_⟩
 ·rw [hnn]
  show ((double.read _).root (double.fractionBits + 2)).map double.write = _
  rw [hr1,hroot]
  rfl
 ·have hti:(FloatKind.f64.decode (double.nearest false mag place)).toInt .zero = some ((m3 / (1 <<< min (-e3).toNat (m3.log2 + 2)):Nat):Int):=by
   show (double.read _).toInt .zero = _
   rw [hr3]
   unfold Datum.toInt Datum.integral Toward.cut signed
   simp only [show e3.toNat = 0 by omega,Nat.shiftLeft_zero,Bool.toNat_false,Nat.add_zero]
   simp
  have hk:m3 / (1 <<< min (-e3).toNat (m3.log2 + 2)) ≤ m3:=Nat.div_le_self _ _
  unfold f2i
  rw [hti]
  simp only
  generalize m3 / (1 <<< min (-e3).toNat (m3.log2 + 2)) = q at hk ⊢
  rw [if_pos ⟨by show (-9223372036854775808:Int) ≤ _; omega,by show _ ≤ (9223372036854775807:Int); omega⟩]
 ·have hm3:m3.log2 + 2 ≥ 24 ∨ m3 < 2 ^ 22:=by
   by_cases q:m3 < 2 ^ 22
   ·exact .inr q
   ·left
    have:=(Nat.le_log2 (by omega:m3 ≠ 0)).2 (show 2 ^ 22 ≤ m3 by omega)
    omega
  have hk:m3 / (1 <<< min (-e3).toNat (m3.log2 + 2)) ≤ m3:=Nat.div_le_self _ _
  rcases hm3 with q | q
  ·have hd:24 ≤ min (-e3).toNat (m3.log2 + 2):=by omega
   have hle:2 ^ 24 ≤ 1 <<< min (-e3).toNat (m3.log2 + 2):=by
    rw [Nat.one_shiftLeft]
    exact Nat.pow_le_pow_right (by omega) hd
   have:m3 / (1 <<< min (-e3).toNat (m3.log2 + 2)) ≤ m3 / 2 ^ 24:=Nat.div_le_div_left hle (by omega)
   generalize m3 / (1 <<< min (-e3).toNat (m3.log2 + 2)) = q at this hk ⊢
   omega
  ·generalize m3 / (1 <<< min (-e3).toNat (m3.log2 + 2)) = q at hk ⊢
   omega
end Go.Ai.Sx

/- Tracks: roots and distances. -/
namespace Go.Ai.Sx
def IsRoot (n r:Int):Prop:=0 ≤ r ∧ r * r ≤ n ∧ n < (r + 1) * (r + 1)
theorem sq_le {a b:Int} (ha:0 ≤ a) (h:a ≤ b):a * a ≤ b * b:=Int.mul_le_mul h h ha (by omega)
theorem IsRoot.uniq {n r q:Int} (h1:IsRoot n r) (h2:IsRoot n q):r = q:=by
 rcases Int.lt_trichotomy r q with h | h | h
 ·have:=sq_le (a:=r + 1) (b:=q) (by have:=h1.1; omega) (by omega)
  have:=h1.2.2
  have:=h2.2.1
  omega
 ·exact h
 ·have:=sq_le (a:=q + 1) (b:=r) (by have:=h2.1; omega) (by omega)
  have:=h2.2.2
  have:=h1.2.1
  omega
def bsS:Nat → Int → Int → Int → Int
 | 0,lo,_,_=>lo
 | k + 1,lo,hi,n=>if hi - lo > 1 then (if (lo + hi) / 2 * ((lo + hi) / 2) ≤ n then bsS k ((lo + hi) / 2) hi n else bsS k lo ((lo + hi) / 2) n) else lo
def rootS (n:Int):Int:=bsS 60 0 30000000 n
theorem zu19 {n:Int}:∀ (k:Nat) (lo hi:Int),0 ≤ lo → lo < hi → hi - lo ≤ 2 ^ k → lo * lo ≤ n → n < hi * hi → IsRoot n (bsS k lo hi n)
 | 0,lo,hi,h0,h1,h2,h3,h4=>by
  have:hi = lo + 1:=by simp at h2; omega
  subst this
  exact ⟨h0,h3,h4⟩
 | k + 1,lo,hi,h0,h1,h2,h3,h4=>by
  unfold bsS
  split
  ·have:(2:Int) ^ (k + 1) = 2 * 2 ^ k:=by rw [Int.pow_succ]; omega
   split
   ·rename_i hm
    exact zu19 k _ hi (by omega) (by omega) (by omega) hm h4
   ·rename_i hm
    exact zu19 k lo _ h0 (by omega) (by omega) h3 (by omega)
  ·have:hi = lo + 1:=by omega
   subst this
   exact ⟨h0,h3,h4⟩
theorem zg25 {n:Int} (h:0 ≤ n ∧ n < 900000000000000):IsRoot n (rootS n):=zu19 60 0 30000000 (by omega) (by omega) (by decide) (by omega) (by omega)
theorem zs39 {n:Int} (k:Nat):∀ (lo hi:Int),0 ≤ lo → lo < hi → hi ≤ 30000000 → hi - lo ≤ 2 ^ k → Lp (fun s4:Int × Int =>
cond ((decide ((w64 (s4.2 - s4.1)) > 1))) (Option.bind (divO .i64 ((w64 (s4.1 + s4.2))) 2) fun x7 =>
cond ((decide ((w64 (x7 * x7)) ≤ n))) (some (Sum.inl ((x7,s4.2)))) (some (.inl ((s4.1,x7))))) (some (.inr s4.1))) k (lo,hi) (bsS k lo hi n):=by
 induction k with
 | zero =>
  intro lo hi h0 h1 h2 h3
  have:hi = lo + 1:=by simp at h3; omega
  subst this
  refine Lp.done ?_
  simp only []
  rw [zh (by omega) (by omega),decide_eq_false (by omega)]
  rfl
 | succ k ih =>
  intro lo hi h0 h1 h2 h3
  have:(2:Int) ^ (k + 1) = 2 * 2 ^ k:=by rw [Int.pow_succ]; omega
  unfold bsS
  by_cases hq:hi - lo > 1
  ·rw [if_pos hq]
   have hmb:0 ≤ (lo + hi) / 2 ∧ (lo + hi) / 2 ≤ 30000000:=by omega
   have hsq:=zj4 hmb hmb
   have e0:w64 ((lo + hi) / 2 * ((lo + hi) / 2)) = (lo + hi) / 2 * ((lo + hi) / 2):=zh (by omega) (by omega)
   by_cases hm:(lo + hi) / 2 * ((lo + hi) / 2) ≤ n
   ·rw [if_pos hm]
    refine Lp.step (s':=((lo + hi) / 2,hi)) ?_ (ih _ _ (by omega) (by omega) h2 (by omega))
    simp only []
    rw [zh (n:=hi - lo) (by omega) (by omega),decide_eq_true hq,cond_true,zh (n:=lo + hi) (by omega) (by omega),zm5 (by omega) (by omega),Option.bind_some,e0,decide_eq_true hm]
    rfl
   ·rw [if_neg hm]
    refine Lp.step (s':=(lo,(lo + hi) / 2)) ?_ (ih _ _ h0 (by omega) (by omega) (by omega))
    simp only []
    rw [zh (n:=hi - lo) (by omega) (by omega),decide_eq_true hq,cond_true,zh (n:=lo + hi) (by omega) (by omega),zm5 (by omega) (by omega),Option.bind_some,e0,decide_eq_false hm]
    rfl
  ·rw [if_neg hq]
   refine Lp.done ?_
   simp only []
   rw [zh (by omega) (by omega),decide_eq_false hq]
   rfl
theorem zt34 (n:Int):zy5 n = some (rootS n):=by
 unfold zy5
 rw [(zs39 (n:=n) 60 0 30000000 (by omega) (by omega) (by omega) (by decide)).big (by simp only [big]; omega)]
 rfl
theorem zd22 {n:Int} (h0:0 ≤ n):∀ (k:Nat),k ≤ 2000000000 → ∃ r:Int,Lp (fun s4:Int =>
cond ((decide ((w64 (s4 * s4)) > n))) (some (Sum.inl ((w64 (s4 - 1))))) (some (.inr s4))) k (k:Int) r ∧ 0 ≤ r ∧ r ≤ k ∧ r * r ≤ n
 | 0,_=>⟨0,Lp.done (by simp only [show w64 (((0:Nat):Int) * ((0:Nat):Int)) = 0 from rfl]; rw [decide_eq_false (by omega)]; rfl),by omega,by omega,by omega⟩
 | k + 1,hk=>by
  have hb:0 ≤ ((k + 1:Nat):Int) ∧ ((k + 1:Nat):Int) ≤ 2000000000:=by omega
  have hs:=zj4 hb hb
  have e:w64 (((k + 1:Nat):Int) * ((k + 1:Nat):Int)) = ((k + 1:Nat):Int) * ((k + 1:Nat):Int):=zh (by omega) (by omega)
  by_cases hm:((k + 1:Nat):Int) * ((k + 1:Nat):Int) > n
  ·obtain ⟨r,h1,h2,h3,h4⟩:=zd22 h0 k (by omega)
   refine ⟨r,Lp.step (s':=(k:Int)) ?_ h1,h2,by omega,h4⟩
   simp only [e]
   rw [decide_eq_true hm,cond_true,zh (by omega) (by omega)]
   congr 2
   omega
  ·refine ⟨((k + 1:Nat):Int),Lp.done ?_,by omega,by omega,by omega⟩
   simp only [e]
   rw [decide_eq_false hm]; rfl
theorem zy30 {n:Int} (hn:0 ≤ n ∧ n < 900000000000000):∀ (k:Nat) (x:Int),0 ≤ x → x * x ≤ n → x + k = 30000000 → Lp (fun s10:Int =>
cond ((decide ((w64 ((w64 (s10 + 1)) * (w64 (s10 + 1)))) ≤ n))) (some (Sum.inl ((w64 (s10 + 1))))) (some (.inr s10))) k x (rootS n)
 | 0,x,h0,h1,h2=>by
  have:x = 30000000:=by omega
  subst this
  omega
 | k + 1,x,h0,h1,h2=>by
  have e1:w64 (x + 1) = x + 1:=zh (by omega) (by omega)
  have hb:0 ≤ x + 1 ∧ x + 1 ≤ 30000001:=by omega
  have hs:=zj4 hb hb
  have e2:w64 ((x + 1) * (x + 1)) = (x + 1) * (x + 1):=zh (by omega) (by omega)
  by_cases hm:(x + 1) * (x + 1) ≤ n
  ·refine Lp.step (s':=x + 1) ?_ (zy30 hn k (x + 1) (by omega) hm (by omega))
   simp only [e1,e2]
   rw [decide_eq_true hm]; rfl
  ·have:x = rootS n:=IsRoot.uniq ⟨h0,h1,by omega⟩ (zg25 hn)
   rw [← this]
   refine Lp.done ?_
   simp only [e1,e2]
   rw [decide_eq_false hm]; rfl
theorem zt39 {n:Int} (hn:0 ≤ n ∧ n < 900000000000000):za8 n = some (rootS n):=by
 obtain ⟨r,k,h1,h2,h3,h4⟩:=zx30 hn.1 (by omega)
 unfold za8
 rw [h1,Option.bind_some,h2,Option.bind_some]
 obtain ⟨q,a1,a2,a3,a4⟩:=zd22 hn.1 k.toNat (by omega)
 rw [Int.toNat_of_nonneg h3] at a1
 rw [a1.big (by simp only [big]; omega),Option.bind_some]
 have hq:q < 30000000:=by
  rcases Int.lt_or_le q 30000000 with h | h
  ·exact h
  ·have:=sq_le (a:=30000000) (b:=q) (by omega) h
   omega
 rw [(zy30 hn (30000000 - q).toNat q a2 a4 (by omega)).big (by simp only [big]; omega)]
 rfl
def spotB (s:Spot):Bool:=inB s.1 (-10000000) 10000000 && inB s.2.1 (-10000000) 10000000
theorem twithin (n a b:Int):zw n a b = some (inB n a b):=zu10 n a b
theorem rin1 (n a b:Int):zg1 n a b = some (inB n a b):=zu10 n a b
theorem zv19 (s:Spot):zh5 s = some (spotB s):=by
 unfold zh5 spotB
 rw [twithin,twithin]
 cases inB s.1 (-10000000) 10000000 <;> rfl
theorem zh25 (s:Spot):zs2 s = some (spotB s):=by
 unfold zs2 spotB
 rw [rin1,rin1]
 cases inB s.1 (-10000000) 10000000 <;> rfl
def distS (a b:Spot):Int:=rootS ((a.1 - b.1) * (a.1 - b.1) + (a.2.1 - b.2.1) * (a.2.1 - b.2.1))
theorem sq_bd {x:Int} (h:-20000000 ≤ x ∧ x ≤ 20000000):0 ≤ x * x ∧ x * x ≤ 400000000000000:=by
 by_cases h0:0 ≤ x
 ·exact zj4 (A:=20000000) (B:=20000000) ⟨h0,h.2⟩ ⟨h0,h.2⟩
 ·have:=zj4 (a:=-x) (b:=-x) (A:=20000000) (B:=20000000) ⟨by omega,by omega⟩ ⟨by omega,by omega⟩
  rw [Int.neg_mul_neg] at this
  exact this
theorem zz30 {a b:Spot} (ha:spotB a = true) (hb:spotB b = true):w64 (w64 (w64 (a.1 - b.1) * w64 (a.1 - b.1)) + w64 (w64 (a.2.1 - b.2.1) * w64 (a.2.1 - b.2.1))) = (a.1 - b.1) * (a.1 - b.1) + (a.2.1 - b.2.1) * (a.2.1 - b.2.1) ∧ 0 ≤ (a.1 - b.1) * (a.1 - b.1) + (a.2.1 - b.2.1) * (a.2.1 - b.2.1) ∧ (a.1 - b.1) * (a.1 - b.1) + (a.2.1 - b.2.1) * (a.2.1 - b.2.1) ≤ 800000000000000:=by
 unfold spotB at ha hb
 simp only [Bool.and_eq_true,zo3] at ha hb
 have h1:=sq_bd (x:=a.1 - b.1) (by omega)
 have h2:=sq_bd (x:=a.2.1 - b.2.1) (by omega)
 rw [zh (n:=a.1 - b.1) (by omega) (by omega),zh (n:=a.2.1 - b.2.1) (by omega) (by omega),zh (n:=(a.1 - b.1) * (a.1 - b.1)) (by omega) (by omega),zh (n:=(a.2.1 - b.2.1) * (a.2.1 - b.2.1)) (by omega) (by omega),zh (by omega) (by omega)]
 exact ⟨rfl,by omega,by omega⟩
theorem za31 {a b:Spot} (ha:spotB a = true) (hb:spotB b = true):zl4 a b = some (distS a b):=by
 obtain ⟨h1,h2,h3⟩:=zz30 ha hb
 unfold zl4
 rw [h1,zt39 ⟨h2,by omega⟩]; rfl
theorem zg36 {a b:Spot} (ha:spotB a = true) (hb:spotB b = true):zi4 a b = some (distS a b):=by
 obtain ⟨h1,h2,h3⟩:=zz30 ha hb
 unfold zi4
 rw [h1,zt34]; rfl
theorem zu39 {a b:Spot} (ha:spotB a = true) (hb:spotB b = true):0 ≤ distS a b ∧ distS a b ≤ 30000000:=by
 obtain ⟨h1,h2,h3⟩:=zz30 ha hb
 have hr:=zg25 (n:=(a.1 - b.1) * (a.1 - b.1) + (a.2.1 - b.2.1) * (a.2.1 - b.2.1)) ⟨h2,by omega⟩
 refine ⟨hr.1, ?_⟩
 rcases Int.lt_or_le (distS a b) 30000001 with h | h
 ·omega
 ·have:=sq_le (a:=30000001) (b:=distS a b) (by omega) h
  have:=hr.2.1
  unfold distS at *
  omega
end Go.Ai.Sx

/- Tracks: nodes,rails,lines and lengths. -/
namespace Go.Ai.Sx
def sumR (f:Nat → Int):Nat → Nat → Int
 | _,0=>0
 | a,k + 1=>f a + sumR f (a + 1) k
theorem zp16 {f:Nat → Int} {B:Int}:∀ (k a:Nat),(∀ i,a ≤ i → i < a + k → 0 ≤ f i ∧ f i ≤ B) → 0 ≤ sumR f a k ∧ sumR f a k ≤ B * k
 | 0,a,_=>by simp [sumR]
 | k + 1,a,h=>by
  have h1:=h a (Nat.le_refl a) (by omega)
  have h2:=zp16 k (a + 1) (fun i hi hk=>h i (by omega) (by omega))
  have:B * ((k + 1:Nat):Int) = B * k + B:=by rw [show ((k + 1:Nat):Int) = (k:Int) + 1 by omega,Int.mul_add,Int.mul_one]
  unfold sumR
  omega
theorem zh18 {f g:Nat → Int}:∀ (k a:Nat),(∀ i,a ≤ i → i < a + k → f i = g i) → sumR f a k = sumR g a k
 | 0,_,_=>rfl
 | k + 1,a,h=>by
  unfold sumR
  rw [h a (Nat.le_refl a) (by omega),zh18 k (a + 1) (fun i hi hk=>h i (by omega) (by omega))]
theorem zw19 {F:Int × Int → Option ((Int × Int) ⊕ Int)} {f:Nat → Int} {B:Int} {N:Nat} (hB:0 ≤ B) (hN:N < 1000000) (hBN:B * 1000000 ≤ 4611686018427387904) (hf:∀ i:Nat,i < N → 0 ≤ f i ∧ f i ≤ B) :
    ∀ (k a:Nat) (s:Int),a + k = N → 0 ≤ s → s ≤ B * a → (∀ (i:Nat) (s:Int),a ≤ i → i < N → F (s,(i:Int)) = some (.inl (w64 (s + f i),w64 ((i:Int) + 1)))) → (∀ s,F (s,(N:Int)) = some (.inr s)) → Lp F k (s,(a:Int)) (s + sumR f a k)
  | 0,a,s,ha,h0,h1,_,he=>by
    have:a = N:=by omega
    subst this
    unfold sumR
    rw [Int.add_zero]
    exact Lp.done (he s)
  | k + 1,a,s,ha,h0,h1,hF,he=>by
    have h2:=hf a (by omega)
    have h3:B * ((a + 1:Nat):Int) = B * a + B:=by rw [show ((a + 1:Nat):Int) = (a:Int) + 1 by omega,Int.mul_add,Int.mul_one]
    have h4:B * ((a + 1:Nat):Int) ≤ B * 1000000:=Int.mul_le_mul_of_nonneg_left (by omega) hB
    unfold sumR
    rw [← Int.add_assoc]
    refine Lp.step (s':=(s + f a,((a + 1:Nat):Int))) ?_ (zw19 hB hN hBN hf k (a + 1) _ (by omega) (by omega) (by omega) (fun i s hi hk=>hF i s (by omega) hk) he)
    rw [hF a s (Nat.le_refl a) (by omega),zh (by omega) (by omega),zc1 (by omega)]
def N0:ANode:=((0,0,()),0,[],0,())
def S0:Spot:=(0,0,())
def endsN (k:Int):Int:=if k = 1 then 1 else if k = 2 then 2 else if k = 3 then 4 else if k = 4 ∨ k = 5 ∨ k = 6 then 3 else 0
def nodeB (n:ANode):Bool:=spotB n.1 && (endsN n.2.1 != 0) && (lenI n.2.2.1 == endsN n.2.1) && (if n.2.1 = 5 ∨ n.2.1 = 6 then inB n.2.2.2.1 1 2 else n.2.2.2.1 == 0)
theorem kinds {k:Int} (h1:¬ k < 1) (h2:¬ k > 6):k = 1 ∨ k = 2 ∨ k = 3 ∨ k = 4 ∨ k = 5 ∨ k = 6:=by omega
theorem zq16 {k:Int} (h:k < 1 ∨ k > 6):endsN k = 0:=by
 unfold endsN
 rw [if_neg (by omega),if_neg (by omega),if_neg (by omega),if_neg (by omega)]
theorem zv39 (n:ANode):zz7 n = some (nodeB n):=by
 unfold zz7 nodeB
 by_cases h1:n.2.1 < 1
 ·rw [decide_eq_true h1,zq16 (.inl h1)]; simp
 by_cases h2:n.2.1 > 6
 ·rw [decide_eq_false h1,decide_eq_true h2,zq16 (.inr h2)]; simp
 rw [decide_eq_false h1,decide_eq_false h2,zv19]
 simp only [cond_false,Option.bind_some]
 cases spotB n.1 with
 | false=>rfl
 | true =>
  simp only [Bool.not_true,cond_false,zg8,Option.bind_some,twithin,Bool.true_and]
  have hi:idx (List.replicate 1 0 ++ [1,2,4,3,3,3]) n.2.1 = some (endsN n.2.1) ∧ (endsN n.2.1 != 0) = true:=by
   rcases kinds h1 h2 with h | h | h | h | h | h <;> rw [h] <;> exact ⟨rfl,rfl⟩
  rw [hi.1,hi.2,Option.bind_some]
  have hc:(cond (n.2.1 == 5) (some true) (some (n.2.1 == 6)):Option Bool) = some (decide (n.2.1 = 5 ∨ n.2.1 = 6)):=by
   by_cases h5:n.2.1 = 5
   ·rw [h5]; rfl
   ·by_cases h6:n.2.1 = 6
    ·rw [h6]; rfl
    ·have e5:(n.2.1 == 5) = false:=by simpa using h5
     have e6:(n.2.1 == 6) = false:=by simpa using h6
     rw [e5,e6,decide_eq_false (by omega)]; rfl
  rw [hc]
  by_cases hl:lenI n.2.2.1 = endsN n.2.1
  ·have e1:(lenI n.2.2.1 != endsN n.2.1) = false:=by rw [bne_eq_false_iff_eq]; exact hl
   have e2:(lenI n.2.2.1 == endsN n.2.1) = true:=by rw [beq_iff_eq]; exact hl
   rw [e1,e2]
   simp only [cond_false,Option.bind_some,Bool.true_and]
   by_cases h:n.2.1 = 5 ∨ n.2.1 = 6
   ·rw [decide_eq_true h,if_pos h]; rfl
   ·rw [decide_eq_false h,if_neg h]; rfl
  ·have e1:(lenI n.2.2.1 != endsN n.2.1) = true:=by rw [bne_iff_ne]; exact hl
   have e2:(lenI n.2.2.1 == endsN n.2.1) = false:=by simpa using hl
   rw [e1,e2]; rfl
theorem zu34 (k:Int):zs1 k = some (endsN k):=by
 unfold zs1 endsN
 by_cases h1:k = 1
 ·rw [h1]; rfl
 by_cases h2:k = 2
 ·rw [h2]; rfl
 by_cases h3:k = 3
 ·rw [h3]; rfl
 by_cases h4:k = 4
 ·rw [h4]; rfl
 by_cases h5:k = 5
 ·rw [h5]; rfl
 by_cases h6:k = 6
 ·rw [h6]; rfl
 rw [if_neg h1,if_neg h2,if_neg h3,if_neg (by omega)]
 have e1:(k == 1) = false:=by simpa using h1
 have e2:(k == 2) = false:=by simpa using h2
 have e3:(k == 3) = false:=by simpa using h3
 have e4:(k == 4) = false:=by simpa using h4
 have e5:(k == 5) = false:=by simpa using h5
 have e6:(k == 6) = false:=by simpa using h6
 rw [e1,e2,e3,e4,e5,e6]; rfl
def nd (p:Plan) (i:Int):ANode:=p.1.getD i.toNat N0
def lineS (p:Plan) (r:Rail):List Spot:=[(nd p r.1).1] ++ r.2.2.1 ++ [(nd p r.2.1).1]
theorem zk10 (p:Plan) (r:Rail):(lineS p r).length = r.2.2.1.length + 2:=by unfold lineS; simp
theorem zu42 {A:Type} (a b c:A):idx [a,b,c] 0 = some a:=rfl
theorem zv42 {A:Type} (a b c:A):idx [a,b,c] 1 = some b:=rfl
theorem zw42 {A:Type} (a b c:A):idx [a,b,c] 2 = some c:=rfl
theorem len3 {A:Type} (a b c:A):lenI [a,b,c] = 3:=rfl
theorem concat3 {a b:Spot} {s:List Spot} (hs:s.length ≤ 30):zn1 [[a],s,[b]] = some ([a] ++ s ++ [b]):=by
  unfold zn1
  have h1:Lp (fun s4:Int × Int =>
cond ((decide (s4.2 < (lenI [[a],s,[b]])))) (Option.bind (idx [[a],s,[b]] s4.2) fun x7 =>
cond ((decide ((w64 (s4.1 + (lenI x7))) < 0))) (none) (some (Sum.inl (((w64 (s4.1 + (lenI x7))),(w64 (s4.2 + 1))))))) (some (.inr s4.1))) 3 (0,0) ((s.length:Int) + 2):=by
    refine Lp.step (s':=(1,1)) rfl (Lp.step (s':=(1 + (s.length:Int),2)) ?_ (Lp.step (s':=((s.length:Int) + 2,3)) ?_ (Lp.done rfl)))
    · show cond (decide (w64 (1 + lenI s) < 0)) _ _ = _
      rw [zo1,zh (by omega) (by omega),decide_eq_false (by omega)]
      rfl
    · show cond (decide (w64 (1 + (s.length:Int) + 1) < 0)) _ (some (Sum.inl (w64 (1 + (s.length:Int) + 1),_))) = _
      rw [zh (by omega) (by omega),decide_eq_false (by omega),show (1:Int) + s.length + 1 = s.length + 2 by omega]
      rfl
  rw [h1.big (by simp only [big]; omega),Option.bind_some]
  have hg:zu1 ((s.length:Int) + 2) = some []:=by
    unfold zu1
    rw [show w64 ((0:Int) - 0) = 0 from rfl,Int.sub_zero,zh (by omega) (by omega),decide_eq_false (by omega),decide_eq_true (by omega)]
    simp only [cond_false,cond_true]
    unfold appzO
    rw [if_pos (by omega),Option.bind_some]
    unfold slz
    have:(List.replicate ((s.length:Int) + 2).toNat ((0,0,()):Spot)).isEmpty = false:=by
      rw [List.isEmpty_eq_false_iff]
      intro e
      have:=congrArg List.length e
      simp at this
      omega
    rw [this]; rfl
  rw [hg,Option.bind_some]
  have h2:Lp (fun s17:List Spot × Int =>
cond ((decide (s17.2 < (lenI [[a],s,[b]])))) (Option.bind (idx [[a],s,[b]] s17.2) fun x20 =>
Option.bind (appO 16 s17.1 x20) fun x21 =>
some (Sum.inl ((x21,(w64 (s17.2 + 1)))))) (some (.inr s17.1))) 3 ([],0) ([a] ++ s ++ [b]):=by
    refine Lp.step (s':=([a],1)) ?_ (Lp.step (s':=([a] ++ s,2)) ?_ (Lp.step (s':=([a] ++ s ++ [b],3)) ?_ (Lp.done rfl)))
    · simp only [len3,decide_eq_true (show (0:Int) < 3 by omega),cond_true,zu42,Option.bind_some]
      rw [zf5 (by simp)]; rfl
    · simp only [len3,decide_eq_true (show (1:Int) < 3 by omega),cond_true,zv42,Option.bind_some]
      rw [zf5 (by simp; omega)]; rfl
    · simp only [len3,decide_eq_true (show (2:Int) < 3 by omega),cond_true,zw42,Option.bind_some]
      rw [zf5 (by simp; omega)]; rfl
  rw [h2.big (by simp only [big]; omega)]; rfl
structure RIx (p:Plan) (r:Rail):Prop where
 f:0 ≤ r.1 ∧ r.1 < p.1.length
 t:0 ≤ r.2.1 ∧ r.2.1 < p.1.length
 s:r.2.2.1.length ≤ 30
theorem zb31 {p:Plan} {r:Rail} (h:RIx p r):zb7 p r = some (lineS p r):=by
 unfold zb7
 rw [zi6 (d:=N0) h.f.1 h.f.2,Option.bind_some,zi6 (d:=N0) h.t.1 h.t.2,Option.bind_some,concat3 h.s]
 rfl
def rl0 (p:Plan) (i:Int):Rail:=p.2.1.getD i.toNat (0,0,[],0,0,())
theorem zi25 {p:Plan} {i:Int} (hi:0 ≤ i ∧ i < p.2.1.length) (h:RIx p (rl0 p i)):zp4 p i = some (lineS p (rl0 p i)):=by
 unfold zp4
 have hs:=h.s
 rw [zi6 (d:=(0,0,[],0,0,())) hi.1 hi.2,Option.bind_some]
 show Option.bind (idx p.1 (rl0 p i).1) _ = _
 rw [zi6 (d:=N0) h.f.1 h.f.2,Option.bind_some]
 show Option.bind (appO 16 [(nd p (rl0 p i).1).1] (rl0 p i).2.2.1) _ = _
 rw [zf5 (by simp; omega),Option.bind_some]
 show Option.bind (idx p.1 (rl0 p i).2.1) _ = _
 rw [zi6 (d:=N0) h.t.1 h.t.2,Option.bind_some]
 rw [zf5 (by simp; omega)]
 rfl
def segS (l:List Spot) (i:Nat):Int:=distS (l.getD (i - 1) S0) (l.getD i S0)
def lenS (l:List Spot):Int:=sumR (segS l) 1 (l.length - 1)
theorem zl9 {l:List Spot} (h:l.all spotB = true) {i:Nat} (hi:i < l.length):spotB (l.getD i S0) = true:=by
 have:l.getD i S0 = l[i]:=by simp [List.getD,hi]
 rw [this]
 exact List.all_eq_true.1 h _ (List.getElem_mem hi)
theorem zj25 {l:List Spot} (h:l.all spotB = true) (hl:1 ≤ l.length ∧ l.length ≤ 40) {sp:Spot → Spot → Option Int} (hsp:∀ a b,spotB a = true → spotB b = true → sp a b = some (distS a b)):iter (σ:=(Int × Int)) (τ:=(Int)) (fun s69 =>
cond ((decide (s69.2 < (lenI l)))) (Option.bind (idx l ((w64 (s69.2 - 1)))) fun x75 =>
Option.bind (idx l s69.2) fun x76 =>
Option.bind (sp x75 x76) fun y77 =>
some (.inl (((w64 (s69.1 + y77)),(w64 (s69.2 + 1)))))) (some (.inr s69.1))) big ((0,1)) = some (lenS l):=by
  have hL:=zw19 (B:=30000000) (N:=l.length) (f:=fun i=>if 1 ≤ i then segS l i else 0) (F:=fun s69:Int × Int =>
cond ((decide (s69.2 < (lenI l)))) (Option.bind (idx l ((w64 (s69.2 - 1)))) fun x75 =>
Option.bind (idx l s69.2) fun x76 =>
Option.bind (sp x75 x76) fun y77 =>
some (.inl (((w64 (s69.1 + y77)),(w64 (s69.2 + 1)))))) (some (.inr s69.1))) (by omega) (by omega) (by omega) (fun i hi=>by
      split
      · exact zu39 (zl9 h (by omega)) (zl9 h hi)
      · omega) (l.length - 1) 1 0 (by omega) (by omega) (by omega) (fun i s hi hk=>by
      rw [if_pos hi]
      simp only []
      rw [zr1 hk,cond_true,zh (n:=(i:Int) - 1) (by omega) (by omega),show (i:Int) - 1 = ((i - 1:Nat):Int) by omega,zf1 S0 (by omega),Option.bind_some,zf1 S0 hk,Option.bind_some,hsp _ _ (zl9 h (by omega)) (zl9 h hk)]
      rfl) (fun s=>by simp only [zb2,cond_false])
  rw [show ((1:Nat):Int) = 1 from rfl,Int.zero_add] at hL
  rw [hL.big (by simp only [big]; omega)]
  unfold lenS
  rw [zh18 _ _ (fun i hi _=>if_pos hi)]
theorem zl27 {p:Plan} {i:Int} (hi:0 ≤ i ∧ i < p.2.1.length) (h:RIx p (rl0 p i)) (hs:(lineS p (rl0 p i)).all spotB = true):zf2 p i = some (lenS (lineS p (rl0 p i))):=by
 unfold zf2
 rw [zi25 hi h,Option.bind_some,zj25 hs (by rw [zk10]; have:=h.s; omega) (sp:=fun a b=>zi4 a b) (fun a b=>zg36)]
 rfl
end Go.Ai.Sx

/- Tracks: which plans are valid. -/
namespace Go.Ai.Sx
def segB (l:List Spot) (i:Nat):Bool:=inB (segS l i) 1 1000000
def segOk (l:List Spot):Bool:=(List.range (l.length - 1)).all fun i=>segB l (i + 1)
def railH (p:Plan) (r:Rail):Bool:=inB r.1 0 (p.1.length - 1) && (inB r.2.1 0 (p.1.length - 1) && (!decide (lenI r.2.2.1 > 30) && (inB r.2.2.2.1 1 50000 && inB r.2.2.2.2.1 (-120) 120)))
def railB (p:Plan) (r:Rail):Bool:=railH p r && ((lineS p r).all spotB && segOk (lineS p r))
theorem zx19 {p:Plan} {r:Rail} (h:railH p r = true):RIx p r:=by
 unfold railH at h
 simp only [Bool.and_eq_true,zo3,Bool.not_eq_true',decide_eq_false_iff_not] at h
 obtain ⟨a,b,c,_⟩:=h
 rw [zo1] at c
 exact ⟨by omega,by omega,by omega⟩
theorem wnodes {p:Plan} (h:1 ≤ p.1.length ∧ p.1.length ≤ 300):w64 (lenI p.1 - 1) = p.1.length - 1:=by rw [zo1,zh (by omega) (by omega)]
def prB (l:List Spot) (i:Nat):Bool:=spotB (l.getD i S0) && (decide (i = 0) || segB l i)
theorem zw39 (l:List Spot) (h:1 ≤ l.length):(List.range l.length).all (prB l) = (l.all spotB && segOk l):=by
 rw [Bool.eq_iff_iff,Bool.and_eq_true]
 unfold prB segOk
 simp only [List.all_eq_true,List.mem_range,Bool.and_eq_true,Bool.or_eq_true,decide_eq_true_eq]
 constructor
 ·intro hh
  refine ⟨fun x hx=>?_,fun i hi=>?_⟩
  ·obtain ⟨i,hi,rfl⟩:=List.getElem_of_mem hx
   have:=(hh i hi).1
   simpa [List.getD,hi] using this
  ·rcases (hh (i + 1) (by omega)).2 with q | q
   ·omega
   ·exact q
 ·rintro ⟨h1,h2⟩ i hi
  refine ⟨?_, ?_⟩
  ·have:l.getD i S0 = l[i]:=by simp [List.getD,hi]
   rw [this]
   exact h1 _ (List.getElem_mem hi)
  ·by_cases h0:i = 0
   ·exact .inl h0
   ·right
    have:=h2 (i - 1) (by omega)
    rwa [show i - 1 + 1 = i by omega] at this
theorem ze22 {l:List Spot} (hl:l.length ≤ 40):∀ (k i:Nat),i + k = l.length → (∀ j,j < i → spotB (l.getD j S0) = true) → Lp (fun s45:Int =>
cond ((decide (s45 < (lenI l)))) (Option.bind (idx l s45) fun x48 =>
Option.bind (zh5 x48) fun y62 =>
cond ((!y62)) (some (Sum.inr ((Sum.inr false:Unit ⊕ Bool)))) (cond ((decide (s45 > 0))) (Option.bind (idx l ((w64 (s45 - 1)))) fun x66 =>
Option.bind (zl4 x66 x48) fun y67 =>
Option.bind (zw y67 1 1000000) fun y68 =>
cond ((!y68)) (some (.inr ((.inr false)))) (some (.inl ((w64 (s45 + 1)))))) (some (.inl ((w64 (s45 + 1))))))) (some (.inr ((.inl (())))))) k (i:Int) (if (List.range' i k).all (prB l) then .inl () else .inr false)
  | 0,i,hi,_=>by
    have:i = l.length:=by omega
    subst this
    exact Lp.done (by simp only [zb2,cond_false]; rfl)
  | k + 1,i,hi,hj=>by
    have hlt:i < l.length:=by omega
    have e1:=zr1 hlt
    rw [List.range'_succ,List.all_cons]
    cases hs:spotB (l.getD i S0) with
    | false =>
      have:prB l i = false:=by unfold prB; rw [hs]; rfl
      rw [this]
      refine Lp.done ?_
      simp only [e1,cond_true,zf1 S0 hlt,Option.bind_some,zv19,hs,Bool.not_false]
      rfl
    | true =>
      have hj':∀ j,j < i + 1 → spotB (l.getD j S0) = true:=fun j h=>by
        by_cases e:j = i
        · rw [e]; exact hs
        · exact hj j (by omega)
      have ih:=ze22 hl k (i + 1) (by omega) hj'
      by_cases h0:i = 0
      · subst h0
        have:prB l 0 = true:=by unfold prB; rw [hs]; rfl
        rw [this,Bool.true_and]
        refine Lp.step (s':=((0 + 1:Nat):Int)) ?_ ih
        simp only [e1,cond_true,zf1 S0 hlt,Option.bind_some,zv19,hs,Bool.not_true,cond_false]
        rfl
      · have e2:decide ((i:Int) > 0) = true:=decide_eq_true (by omega)
        have hsp:=za31 (hj (i - 1) (by omega)) hs
        have hp:prB l i = segB l i:=by unfold prB; rw [hs,decide_eq_false h0]; rfl
        rw [hp]
        have hf:∀ X:Option (Int ⊕ (Unit ⊕ Bool)),(cond ((decide ((i:Int) < (lenI l)))) (Option.bind (idx l (i:Int)) fun x48 =>
Option.bind (zh5 x48) fun y62 =>
cond ((!y62)) (some (Sum.inr ((Sum.inr false:Unit ⊕ Bool)))) (cond ((decide ((i:Int) > 0))) (Option.bind (idx l ((w64 ((i:Int) - 1)))) fun x66 =>
Option.bind (zl4 x66 x48) fun y67 =>
Option.bind (zw y67 1 1000000) fun y68 =>
cond ((!y68)) (some (.inr ((.inr false)))) (some (.inl ((w64 ((i:Int) + 1)))))) (some (.inl ((w64 ((i:Int) + 1))))))) X) = cond (!segB l i) (some (.inr (.inr false))) (some (.inl ((i + 1:Nat):Int))):=fun X=>by
          rw [e1,cond_true,zf1 S0 hlt,Option.bind_some,zv19,hs,Option.bind_some,e2,zh (n:=(i:Int) - 1) (by omega) (by omega),show (i:Int) - 1 = ((i - 1:Nat):Int) by omega,zf1 S0 (by omega)]
          simp only [Bool.not_true,cond_false,cond_true,Option.bind_some]
          rw [hsp,Option.bind_some,twithin,Option.bind_some,zc1 (by omega)]
          rfl
        cases hb:segB l i with
        | false =>
          rw [Bool.false_and]
          refine Lp.done ?_
          rw [hf,hb]; rfl
        | true =>
          rw [Bool.true_and]
          refine Lp.step (s':=((i + 1:Nat):Int)) ?_ ih
          rw [hf,hb]; rfl
theorem zx39 {p:Plan} (hp:1 ≤ p.1.length ∧ p.1.length ≤ 300) (r:Rail):zb8 p r = some (railB p r):=by
 unfold zb8 railB
 simp only [twithin,Option.bind_some,wnodes hp]
 have hc:∀ X Y:Option Bool,Option.bind (cond (!inB r.1 0 (p.1.length - 1)) (some true) (cond (!inB r.2.1 0 (p.1.length - 1)) (some true) (cond (decide (lenI r.2.2.1 > 30)) (some true) (cond (!inB r.2.2.2.1 1 50000) (some true) (some (!inB r.2.2.2.2.1 (-120) 120)))))) (fun c9=>cond c9 X Y) = if railH p r then Y else X:=fun X Y=>by
  unfold railH
  cases inB r.1 0 (p.1.length - 1) with
  | false=>rfl
  | true =>
  cases inB r.2.1 0 (p.1.length - 1) with
  | false=>rfl
  | true =>
  cases decide (lenI r.2.2.1 > 30) with
  | true=>rfl
  | false =>
  cases inB r.2.2.2.1 1 50000 with
  | false=>rfl
  | true=>cases inB r.2.2.2.2.1 (-120) 120 <;> rfl
 rw [hc]
 cases hh:railH p r with
 | false=>rfl
 | true =>
  have hix:=zx19 hh
  have hlen:(lineS p r).length ≤ 40 ∧ 1 ≤ (lineS p r).length:=by rw [zk10]; have:=hix.s; omega
  rw [if_pos rfl,zb31 hix,Option.bind_some]
  have hL:=ze22 hlen.1 (lineS p r).length 0 (by omega) (fun j hj=>by omega)
  rw [show ((0:Nat):Int) = 0 from rfl] at hL
  simp only [twithin,Option.bind_some] at hL
  rw [hL.big (by simp only [big]; omega),Option.bind_some,← List.range_eq_range',zw39 _ hlen.2]
  cases ((lineS p r).all spotB && segOk (lineS p r)) <;> rfl
theorem zk25 {p:Plan} {r:Rail} (hn:p.1.all nodeB = true) (h:RIx p r):(lineS p r).all spotB = r.2.2.1.all spotB:=by
 have hsp:∀ i:Int,0 ≤ i → i < p.1.length → spotB (nd p i).1 = true:=fun i h0 h1=>by
  have hlt:i.toNat < p.1.length:=by omega
  have:nd p i = p.1[i.toNat]:=by unfold nd; simp [List.getD,hlt]
  rw [this]
  have:=List.all_eq_true.1 hn _ (List.getElem_mem hlt)
  unfold nodeB at this
  simp only [Bool.and_eq_true] at this
  exact this.1.1.1
 unfold lineS
 rw [List.all_append,List.all_append]
 simp only [List.all_cons,List.all_nil,Bool.and_true]
 rw [hsp _ h.f.1 h.f.2,hsp _ h.t.1 h.t.2,Bool.and_true,Bool.true_and]
theorem zv34 {l:List Spot} (h:l.all spotB = true) (hl:1 ≤ l.length ∧ l.length ≤ 40):iter (σ:=(Int)) (τ:=Unit ⊕ (Bool)) (fun s283 =>
cond ((decide (s283 < (lenI l)))) (Option.bind (idx l ((w64 (s283 - 1)))) fun x290 =>
Option.bind (idx l s283) fun x291 =>
Option.bind (zi4 x290 x291) fun y292 =>
Option.bind (zg1 y292 1 1000000) fun y293 =>
cond ((!y293)) (some (.inr ((.inr false)))) (some (.inl ((w64 (s283 + 1)))))) (some (.inr ((.inl (())))))) big 1 = some (if segOk l then .inl () else .inr false):=by
 unfold segOk
 rw [zp12 (s0:=(1:Int)) (fun i=>((i + 1:Nat):Int)) (l.length - 1) (fun i=>segB l (i + 1)) (.inr false) (.inl ()) rfl (by simp only [big]; omega)]
 ·intro i hi
  have hlt:i + 1 < l.length:=by omega
  rw [zr1 hlt,cond_true,zh (n:=((i + 1:Nat):Int) - 1) (by omega) (by omega),show ((i + 1:Nat):Int) - 1 = (i:Int) by omega,zf1 S0 (by omega),Option.bind_some,zf1 S0 hlt,Option.bind_some,zg36 (zl9 h (by omega)) (zl9 h hlt),Option.bind_some,rin1,Option.bind_some,zc1 (by omega)]
  show cond (!segB l (i + 1)) _ _ = _
  cases segB l (i + 1) <;> rfl
 ·rw [show l.length - 1 + 1 = l.length by omega,zb2,cond_false]
theorem zw34 {p:Plan} (hp:1 ≤ p.1.length ∧ p.1.length ≤ 300) (hn:p.1.all nodeB = true) {i:Nat} (hi:i < p.2.1.length) (hR:p.2.1.length ≤ 400):(Option.bind (idx p.2.1 (i:Int)) fun x234 =>
Option.bind (zg1 x234.1 0 ((w64 ((lenI p.1) - 1)))) fun y244 =>
cond ((!y244)) (some (Sum.inr ((Sum.inr false:Unit ⊕ Bool)))) (Option.bind (zg1 x234.2.1 0 ((w64 ((lenI p.1) - 1)))) fun y247 =>
cond ((!y247)) (some (.inr ((.inr false)))) (cond ((decide ((lenI x234.2.2.1) > 30))) (some (.inr ((.inr false)))) (Option.bind (zg1 x234.2.2.2.1 1 50000) fun y252 =>
cond ((!y252)) (some (.inr ((.inr false)))) (Option.bind (zg1 x234.2.2.2.2.1 ((-120)) 120) fun y255 =>
cond ((!y255)) (some (.inr ((.inr false)))) (Option.bind (iter (σ:=(Int)) (τ:=Unit ⊕ (Bool)) (fun s261 =>
cond ((decide (s261 < (lenI x234.2.2.1)))) (Option.bind (idx x234.2.2.1 s261) fun x264 =>
Option.bind (zs2 x264) fun y265 =>
cond ((!y265)) (some (.inr ((.inr false)))) (some (.inl ((w64 (s261 + 1)))))) (some (.inr ((.inl (())))))) big 0) fun t267 =>
alt (fun b269=>Option.bind (zp4 p (i:Int)) fun y271 =>
Option.bind (iter (σ:=(Int)) (τ:=Unit ⊕ (Bool)) (fun s283 =>
cond ((decide (s283 < (lenI y271)))) (Option.bind (idx y271 ((w64 (s283 - 1)))) fun x290 =>
Option.bind (idx y271 s283) fun x291 =>
Option.bind (zi4 x290 x291) fun y292 =>
Option.bind (zg1 y292 1 1000000) fun y293 =>
cond ((!y293)) (some (.inr ((.inr false)))) (some (.inl ((w64 (s283 + 1)))))) (some (.inr ((.inl (())))))) big 1) fun t295 =>
alt (fun b297=>some (.inl ((w64 ((i:Int) + 1))))) (fun b298=>some (.inr ((.inr b298)))) t295) (fun b270=>some (.inr ((.inr b270)))) t267)))))) = some (if railB p p.2.1[i] then .inl ((i:Int) + 1) else .inr (.inr false)):=by
 rw [zr3 hi,Option.bind_some]
 have hrl:rl0 p (i:Int) = p.2.1[i]:=by unfold rl0; simp [List.getD,hi]
 rw [← hrl]
 obtain ⟨r,hr⟩:∃ r,r = rl0 p (i:Int):=⟨_,rfl⟩
 rw [← hr]
 simp only [rin1,Option.bind_some,wnodes hp]
 unfold railB railH
 cases h1:inB r.1 0 (p.1.length - 1) with
 | false=>rfl
 | true =>
 cases h2:inB r.2.1 0 (p.1.length - 1) with
 | false=>rfl
 | true =>
 cases h3:decide (lenI r.2.2.1 > 30) with
 | true=>rfl
 | false =>
 cases h4:inB r.2.2.2.1 1 50000 with
 | false=>rfl
 | true =>
 cases h5:inB r.2.2.2.2.1 (-120) 120 with
 | false=>rfl
 | true =>
 have hix:RIx p r:=zx19 (by unfold railH; rw [h1,h2,h3,h4,h5]; rfl)
 have hsl:=hix.s
 simp only [Bool.not_true,cond_false,Bool.not_false,Bool.true_and]
 rw [zk25 hn hix,zj10 r.2.2.1 spotB false (by omega)]
 ·cases hs:r.2.2.1.all spotB with
  | false=>rfl
  | true =>
   simp only [if_true,Option.bind_some,zz3,Bool.true_and]
   have hq:=zv34 (l:=lineS p r) (by rw [zk25 hn hix]; exact hs) (by rw [zk10]; omega)
   simp only [rin1,Option.bind_some] at hq
   rw [zi25 (i:=(i:Int)) (by omega) (by rw [← hr]; exact hix),← hr,Option.bind_some,hq,Option.bind_some]
   cases segOk (lineS p r) with
   | false=>rfl
   | true =>
    simp only [if_true,zz3]
    rw [zh (by omega) (by omega)]
 ·intro j hj
  rw [zr1 hj,cond_true,zr3 hj,Option.bind_some,zh25,Option.bind_some,zh (by omega) (by omega)]
  cases spotB r.2.2.1[j] <;> rfl
 ·rw [zb2,cond_false]
end Go.Ai.Sx

/- Tracks: which plans are valid,and what is known of them. -/
namespace Go.Ai.Sx
def atS (p:Plan) (e:RailEnd):Int:=if e.2.1 then (rl0 p e.1).2.1 else (rl0 p e.1).1
theorem zq12 {p:Plan} {e:RailEnd} (h:0 ≤ e.1 ∧ e.1 < p.2.1.length):zb4 p e = some (atS p e) ∧ zg6 p e = some (atS p e):=by
 unfold zb4 zg6 atS
 rw [zi6 (d:=(0,0,[],0,0,())) h.1 h.2]
 cases e.2.1 <;> exact ⟨rfl,rfl⟩
def eOk (p:Plan) (i:Nat) (acc:List RailEnd) (e:RailEnd):Bool:=inB e.1 0 (p.2.1.length - 1) && ((atS p e == (i:Int)) && !decide (e ∈ acc))
def scanE (p:Plan) (i:Nat):List RailEnd → List RailEnd → Option (List RailEnd)
 | [],acc=>some acc
 | e :: es,acc=>if eOk p i acc e then scanE p i es (acc ++ [e]) else none
def scanN (p:Plan):List ANode → Nat → List RailEnd → Option (List RailEnd)
 | [],_,acc=>some acc
 | n :: ns,i,acc=>match scanE p i n.2.2.1 acc with
  | some acc'=>scanN p ns (i + 1) acc'
  | none=>none
def endsB (p:Plan):Bool:=match scanN p p.1 0 [] with
 | some acc=>decide ((acc.length:Int) = 2 * p.2.1.length)
 | none=>false
def validB (p:Plan):Bool:=inB (lenI p.1) 1 300 && inB (lenI p.2.1) 1 400 && (p.1.all nodeB && p.2.1.all (railB p)) && endsB p
theorem zr12 {p:Plan} {i:Nat}:∀ {es acc acc':List RailEnd},scanE p i es acc = some acc' → acc' = acc ++ es
 | [],acc,acc',h=>by cases h; simp
 | e :: es,acc,acc',h=>by
  unfold scanE at h
  split at h
  ·rw [zr12 h]; simp
  ·cases h
theorem zc31 {A:Type} [DecidableEq A] (acc:List A) (e:A):(mget (acc.map fun a=>(a,true)) e).getD false = decide (e ∈ acc):=by
 induction acc with
 | nil=>rfl
 | cons a acc ih =>
  rw [List.map_cons,mget]
  by_cases h:e = a
  ·rw [if_pos h,h]; simp
  ·rw [if_neg h,ih]; simp [h]
theorem zl25 {A B:Type} [DecidableEq A]:∀ (m:List (A × B)) (e:A) (v:B),mget m e = none → mset m e v = m ++ [(e,v)]
 | [],_,_,_=>rfl
 | (k,w) :: es,e,v,h=>by
  rw [mget] at h
  split at h
  ·cases h
  ·rename_i hk
   rw [mset,if_neg hk,zl25 es e v h]; rfl
theorem zd31 {A:Type} [DecidableEq A] (acc:List A) (e:A) (h:¬ e ∈ acc):mget (acc.map fun a=>(a,true)) e = none:=by
 induction acc with
 | nil=>rfl
 | cons a acc ih =>
  rw [List.mem_cons,not_or] at h
  rw [List.map_cons,mget,if_neg h.1,ih h.2]
theorem wrails {p:Plan} (h:1 ≤ p.2.1.length ∧ p.2.1.length ≤ 400):w64 (lenI p.2.1 - 1) = p.2.1.length - 1:=by rw [zo1,zh (by omega) (by omega)]
def mT (acc:List RailEnd):List (RailEnd × Bool):=acc.map fun a=>(a,true)
theorem zy39 (acc:List RailEnd) (e:RailEnd) (h:¬ e ∈ acc):mset (mT acc) e true = mT (acc ++ [e]):=by
 unfold mT
 rw [zl25 _ _ _ (zd31 acc e h),List.map_append]; rfl
theorem zi18 {p:Plan} {i:Nat}:∀ (es acc:List RailEnd) (k:Nat),match scanE p i es acc with
    | some acc'=>foldE (fun _ acc e=>if eOk p i acc e then .inl (acc ++ [e]) else .inr (.inr (2,mT acc))) (fun acc=>.inl (mT acc)) es k acc = (.inl (mT acc'):List (RailEnd × Bool) ⊕ (Int × List (RailEnd × Bool)))
    | none=>∃ m,foldE (fun _ acc e=>if eOk p i acc e then .inl (acc ++ [e]) else .inr (.inr (2,mT acc))) (fun acc=>.inl (mT acc)) es k acc = (.inr (2,m):List (RailEnd × Bool) ⊕ (Int × List (RailEnd × Bool)))
  | [],acc,k=>rfl
  | e :: es,acc,k=>by
    unfold scanE
    rw [foldE]
    cases h:eOk p i acc e with
    | true =>
      simp only [if_true]
      exact zi18 es (acc ++ [e]) (k + 1)
    | false =>
      simp only [Bool.false_eq_true,if_false]
      exact ⟨_,rfl⟩
theorem ze31 {p:Plan} (hR:1 ≤ p.2.1.length ∧ p.2.1.length ≤ 400) (i:Nat) (es acc:List RailEnd) (hes:es.length ≤ 4) :
    iter (σ:=(Int × (List (RailEnd × Bool)))) (τ:=((List (RailEnd × Bool))) ⊕ (Int × (List (RailEnd × Bool)))) (fun s153 =>
cond ((decide (s153.1 < (lenI es)))) (Option.bind (idx es s153.1) fun x156 =>
Option.bind (zw x156.1 0 ((w64 ((lenI p.2.1) - 1)))) fun y162 =>
cond ((!y162)) (some (.inr ((.inr ((2,s153.2)))))) (cond (((mget s153.2 x156).getD false)) (some (.inr ((.inr ((2,s153.2)))))) (Option.bind (zb4 p x156) fun y167 =>
cond ((y167 != (i:Int))) (some (.inr ((.inr ((2,s153.2)))))) (some (.inl (((w64 (s153.1 + 1)),(mset s153.2 x156 true)))))))) (some (.inr ((.inl s153.2))))) big ((0,mT acc)) = some (foldE (fun _ acc e=>if eOk p i acc e then .inl (acc ++ [e]) else .inr (.inr (2,mT acc))) (fun acc=>.inl (mT acc)) es 0 acc):=by
  rw [zb6 (s0:=((0:Int),mT acc)) es (fun k acc=>((k:Int),mT acc)) (fun _ acc e=>if eOk p i acc e then .inl (acc ++ [e]) else .inr (.inr (2,mT acc))) (fun acc=>.inl (mT acc)) (fun _ _=>True) acc rfl (by omega) trivial]
  · intro k hk acc _
    refine ⟨?_,fun _ _=>trivial⟩
    simp only []
    rw [zr1 hk,cond_true,zr3 hk,Option.bind_some,twithin,Option.bind_some,wrails hR]
    obtain ⟨e,he⟩:∃ e,e = es[k]:=⟨_,rfl⟩
    rw [← he]
    unfold eOk
    cases h1:inB e.1 0 (p.2.1.length - 1) with
    | false=>rfl
    | true =>
      have h1':=zo3.1 h1
      have hm:(mget (mT acc) e).getD false = decide (e ∈ acc):=(zc31 acc e).trans (decide_eq_decide.2 Iff.rfl)
      rw [hm,(zq12 (p:=p) (e:=e) (by omega)).1]
      simp only [Bool.not_true,cond_false,Bool.true_and,Option.bind_some]
      by_cases h2:e ∈ acc
      · rw [decide_eq_true h2]
        cases (atS p e == (i:Int)) <;> rfl
      · rw [decide_eq_false h2]
        simp only [cond_false,Bool.not_false,Bool.and_true,bne]
        cases h3:(atS p e == (i:Int)) with
        | false=>rfl
        | true =>
          simp only [Bool.not_true,cond_false,if_true]
          rw [zy39 acc e h2,zc1 (by omega)]
  · intro acc _
    simp only []
    rw [zb2,cond_false]
theorem zd8 {n:ANode} (h:nodeB n = true):n.2.2.1.length ≤ 4:=by
 unfold nodeB at h
 simp only [Bool.and_eq_true,beq_iff_eq] at h
 have h1:=h.1.2
 rw [zo1] at h1
 have:endsN n.2.1 ≤ 4:=by
  unfold endsN
  split
  ·omega
  ·split
   ·omega
   ·split
    ·omega
    ·split <;> omega
 omega
theorem zm27 {p:Plan} (hN:1 ≤ p.1.length ∧ p.1.length ≤ 300) (hR:1 ≤ p.2.1.length ∧ p.2.1.length ≤ 400) (hn:p.1.all nodeB = true) :
    (iter (σ:=(Int × (List (RailEnd × Bool)))) (τ:=((List (RailEnd × Bool))) ⊕ (Int)) (fun s120 =>
cond ((decide (s120.1 < (lenI p.1)))) (Option.bind (idx p.1 s120.1) fun x123 =>
Option.bind (iter (σ:=(Int × (List (RailEnd × Bool)))) (τ:=((List (RailEnd × Bool))) ⊕ (Int × (List (RailEnd × Bool)))) (fun s153 =>
cond ((decide (s153.1 < (lenI x123.2.2.1)))) (Option.bind (idx x123.2.2.1 s153.1) fun x156 =>
Option.bind (zw x156.1 0 ((w64 ((lenI p.2.1) - 1)))) fun y162 =>
cond ((!y162)) (some (.inr ((.inr ((2,s153.2)))))) (cond (((mget s153.2 x156).getD false)) (some (.inr ((.inr ((2,s153.2)))))) (Option.bind (zb4 p x156) fun y167 =>
cond ((y167 != s120.1)) (some (.inr ((.inr ((2,s153.2)))))) (some (.inl (((w64 (s153.1 + 1)),(mset s153.2 x156 true)))))))) (some (.inr ((.inl s153.2))))) big ((0,s120.2))) fun t169 =>
alt (fun b171=>some (.inl (((w64 (s120.1 + 1)),b171)))) (fun b172=>some (.inr ((.inr b172.1)))) t169) (some (.inr ((.inl s120.2))))) big ((0,([]:(List (RailEnd × Bool)))))) = some (match scanN p p.1 0 [] with | some acc=>.inl (mT acc) | none=>.inr 2) ∧ ∀ acc,scanN p p.1 0 [] = some acc → acc.length ≤ 1200:=by
  have hfold:∀ (ns:List ANode) (i:Nat) (acc:List RailEnd),foldE (fun i acc (n:ANode)=>match scanE p i n.2.2.1 acc with | some acc'=>.inl acc' | none=>.inr (.inr 2)) (fun acc=>.inl (mT acc)) ns i acc = (match scanN p ns i acc with | some acc=>.inl (mT acc) | none=>.inr 2:List (RailEnd × Bool) ⊕ Int):=by
    intro ns
    induction ns with
    | nil=>intro i acc; rfl
    | cons n ns ih =>
      intro i acc
      rw [foldE,scanN]
      cases scanE p i n.2.2.1 acc with
      | none=>rfl
      | some acc'=>exact ih (i + 1) acc'
  have hlen:∀ (ns:List ANode) (i:Nat) (acc acc':List RailEnd),ns.all nodeB = true → scanN p ns i acc = some acc' → acc'.length ≤ acc.length + 4 * ns.length:=by
    intro ns
    induction ns with
    | nil=>intro i acc acc' _ h; cases h; simp
    | cons n ns ih =>
      intro i acc acc' hns h
      rw [List.all_cons,Bool.and_eq_true] at hns
      rw [scanN] at h
      cases hs:scanE p i n.2.2.1 acc with
      | none=>rw [hs] at h; cases h
      | some a =>
        rw [hs] at h
        have h1:=ih (i + 1) a acc' hns.2 h
        have h2:=zr12 hs
        have h3:=zd8 hns.1
        rw [h2,List.length_append] at h1
        rw [List.length_cons]
        omega
  refine ⟨?_,fun acc h=>by have:=hlen p.1 0 [] acc hn h; simp only [List.length_nil] at this; omega⟩
  rw [zb6 (s0:=((0:Int),([]:List (RailEnd × Bool)))) p.1 (fun k acc=>((k:Int),mT acc)) (fun i acc (n:ANode)=>match scanE p i n.2.2.1 acc with | some acc'=>.inl acc' | none=>.inr (.inr 2)) (fun acc=>.inl (mT acc)) (fun _ _=>True) [] rfl (by omega) trivial]
  · rw [hfold]
  · intro i hi acc _
    refine ⟨?_,fun _ _=>trivial⟩
    simp only []
    rw [zr1 hi,cond_true,zr3 hi,Option.bind_some,ze31 hR i _ acc (zd8 (List.all_eq_true.1 hn _ (List.getElem_mem hi))),Option.bind_some]
    have:=zi18 (p:=p) (i:=i) p.1[i].2.2.1 acc 0
    cases hs:scanE p i p.1[i].2.2.1 acc with
    | some acc' =>
      rw [hs] at this
      simp only at this
      rw [this,zz3,zc1 (by omega)]
    | none =>
      rw [hs] at this
      obtain ⟨m,this⟩:=this
      rw [this,zs19]
  · intro acc _
    simp only []
    rw [zb2,cond_false]
theorem zy19 (s:List ANode) (hs:s.length ≤ 9223372036854775807) (f:ANode → Option Bool) (p:ANode → Bool) (hf:∀ x ∈ s,f x = some (p x)):za1 s f = some (s.any p):=by
 obtain ⟨k,h1,h2⟩:=zi16 s hs f p hf
 unfold za1 zw1
 rw [h1,Option.bind_some,h2]
theorem zz19 (s:List Rail) (hs:s.length ≤ 9223372036854775807) (f:Rail → Option Bool) (p:Rail → Bool) (hf:∀ x ∈ s,f x = some (p x)):zb1 s f = some (s.any p):=by
 obtain ⟨k,h1,h2⟩:=zi16 s hs f p hf
 unfold zb1 zx1
 rw [h1,Option.bind_some,h2]
theorem zf31 {A:Type} (l:List A) (p:A → Bool):(l.any fun x=>!p x) = !l.all p:=by rw [List.any_eq_not_all_not]; simp
theorem zg31 (p:Plan):zm7 p = some (if validB p then 0 else 2):=by
 unfold zm7 validB
 rw [twithin,twithin]
 cases h1:inB (lenI p.1) 1 300 with
 | false=>rfl
 | true =>
 cases h2:inB (lenI p.2.1) 1 400 with
 | false=>rfl
 | true =>
 have hN:=zo3.1 h1
 have hR:=zo3.1 h2
 rw [zo1] at hN hR
 have hN:1 ≤ p.1.length ∧ p.1.length ≤ 300:=by omega
 have hR:1 ≤ p.2.1.length ∧ p.2.1.length ≤ 400:=by omega
 simp only [Option.bind_some,Bool.not_true,cond_false,Bool.true_and]
 rw [zy19 p.1 (by omega) _ (fun n=>!nodeB n) (fun x _=>by unfold zl7; rw [zv39]; rfl),zf31,zz19 p.2.1 (by omega) _ (fun r=>!railB p r) (fun x _=>by unfold zu5; rw [zx39 hN]; rfl),zf31]
 cases h3:p.1.all nodeB with
 | false=>rfl
 | true =>
 cases h4:p.2.1.all (railB p) with
 | false=>rfl
 | true =>
 simp only [Option.bind_some,Bool.not_true,cond_false,Bool.true_and]
 obtain ⟨n1,n2⟩:=zm27 hN hR h3
 rw [n1,Option.bind_some]
 unfold endsB
 cases h5:scanN p p.1 0 [] with
 | none=>rfl
 | some acc =>
  have hl:=n2 acc h5
  simp only [zz3]
  have hm:(mT acc).length = acc.length:=by unfold mT; rw [List.length_map]
  unfold lenmO
  rw [hm,if_pos (by omega),Option.bind_some,zo1,zh (n:=2 * (p.2.1.length:Int)) (by omega) (by omega)]
  show cond ((acc.length:Int) != 2 * (p.2.1.length:Int)) (some 2) (some 0) = some (if decide ((acc.length:Int) = 2 * p.2.1.length) = true then 0 else 2)
  by_cases hq:(acc.length:Int) = 2 * p.2.1.length
  ·have:((acc.length:Int) != 2 * (p.2.1.length:Int)) = false:=by rw [bne_eq_false_iff_eq]; exact hq
   rw [this,if_pos (decide_eq_true hq)]; rfl
  ·have:((acc.length:Int) != 2 * (p.2.1.length:Int)) = true:=by rw [bne_iff_ne]; exact hq
   rw [this,if_neg (by rw [decide_eq_true_eq]; exact hq)]; rfl
end Go.Ai.Sx

/- Tracks: the reference's look at a plan. -/
namespace Go.Ai.Sx
theorem zx34 (n:ANode) (T:Option (Int ⊕ (Unit ⊕ Bool))):(cond ((n.2.1 == 5)) (Option.bind (zg1 n.2.2.2.1 1 2) fun y92 =>
Option.bind (zs2 n.1) fun y105 =>
cond ((!y105)) (some (.inr ((.inr false)))) (Option.bind (zs1 n.2.1) fun y108 =>
cond ((y108 == 0)) (some (.inr ((.inr false)))) (Option.bind (zs1 n.2.1) fun y111 =>
cond (((lenI n.2.2.1) != y111)) (some (.inr ((.inr false)))) (cond ((!y92)) (some (.inr ((.inr false)))) T)))) (cond ((n.2.1 == 6)) (Option.bind (zg1 n.2.2.2.1 1 2) fun y116 =>
Option.bind (zs2 n.1) fun y129 =>
cond ((!y129)) (some (.inr ((.inr false)))) (Option.bind (zs1 n.2.1) fun y132 =>
cond ((y132 == 0)) (some (.inr ((.inr false)))) (Option.bind (zs1 n.2.1) fun y135 =>
cond (((lenI n.2.2.1) != y135)) (some (.inr ((.inr false)))) (cond ((!y116)) (some (.inr ((.inr false)))) T)))) (Option.bind (zs2 n.1) fun y151 =>
cond ((!y151)) (some (.inr ((.inr false)))) (Option.bind (zs1 n.2.1) fun y154 =>
cond ((y154 == 0)) (some (.inr ((.inr false)))) (Option.bind (zs1 n.2.1) fun y157 =>
cond (((lenI n.2.2.1) != y157)) (some (.inr ((.inr false)))) (cond ((!(n.2.2.2.1 == 0))) (some (.inr ((.inr false)))) T)))))) = cond (nodeB n) T (some (.inr (.inr false))):=by
 simp only [rin1,zh25,zu34,Option.bind_some]
 unfold nodeB
 have hb:∀ b1 b2 b3 b4:Bool,cond (!b1) (some (Sum.inr (Sum.inr false))) (cond b2 (some (.inr (.inr false))) (cond (!b3) (some (.inr (.inr false))) (cond (!b4) (some (.inr (.inr false))) T))) = cond (b1 && !b2 && b3 && b4) T (some (.inr (.inr false))):=by
  intro b1 b2 b3 b4
  cases b1 <;> cases b2 <;> cases b3 <;> cases b4 <;> rfl
 unfold bne
 by_cases h5:n.2.1 = 5
 ·have e5:(n.2.1 == 5) = true:=by simpa using h5
  rw [if_pos (.inl h5),e5,cond_true]
  exact hb _ _ _ _
 ·have e5:(n.2.1 == 5) = false:=by simpa using h5
  rw [e5,cond_false]
  by_cases h6:n.2.1 = 6
  ·have e6:(n.2.1 == 6) = true:=by simpa using h6
   rw [if_pos (.inr h6),e6,cond_true]
   exact hb _ _ _ _
  ·have e6:(n.2.1 == 6) = false:=by simpa using h6
   rw [if_neg (by omega),e6,cond_false]
   exact hb _ _ _ _
theorem zr16 {p:Plan} {i:Nat}:∀ (es acc:List RailEnd) (k:Nat),foldE (fun _ acc e=>if eOk p i acc e then .inl (acc ++ [e]) else .inr (.inr false)) (fun acc=>.inl acc) es k acc = (match scanE p i es acc with | some acc'=>.inl acc' | none=>.inr false:List RailEnd ⊕ Bool)
 | [],acc,k=>rfl
 | e :: es,acc,k=>by
  unfold scanE
  rw [foldE]
  cases h:eOk p i acc e with
  | true =>
   simp only [if_true]
   exact zr16 es (acc ++ [e]) (k + 1)
  | false=>rfl
theorem zy34 (acc:List RailEnd) (e:RailEnd) (hl:acc.length ≤ 100000):iter (σ:=(Int)) (τ:=Unit ⊕ (Bool)) (fun s419 =>
cond ((decide (s419 < (lenI acc)))) (Option.bind (idx acc s419) fun x423 =>
cond ((x423 == e)) (some (.inr ((.inr false)))) (some (.inl ((w64 (s419 + 1)))))) (some (.inr ((.inl (())))))) big 0 = some (if decide (e ∈ acc) then .inr false else .inl ()):=by
 rw [zj10 acc (fun x=>!(x == e)) false (by omega)]
 ·congr 1
  have:(acc.all fun x=>!(x == e)) = !decide (e ∈ acc):=by
   rw [Bool.eq_iff_iff,Bool.not_eq_true',decide_eq_false_iff_not,List.all_eq_true]
   constructor
   ·intro h hm
    have:=h e hm
    simp at this
   ·intro h x hx
    have:x ≠ e:=fun q=>h (q ▸ hx)
    simpa using this
  rw [this]
  cases decide (e ∈ acc) <;> rfl
 ·intro i h
  rw [zr1 h,cond_true,zr3 h,Option.bind_some,zh (by omega) (by omega)]
  cases (acc[i] == e) <;> rfl
 ·rw [zb2,cond_false]
theorem zn27 {p:Plan} (hR:1 ≤ p.2.1.length ∧ p.2.1.length ≤ 400) {i:Nat} (hi:i < p.1.length) (acc:List RailEnd) (hes:p.1[i].2.2.1.length ≤ 4) (hacc:acc.length ≤ 5000) :
    iter (σ:=((List RailEnd) × Int)) (τ:=((List RailEnd)) ⊕ (Bool)) (fun s400 =>
Option.bind (idx p.1 (i:Int)) fun x402 =>
cond ((decide (s400.2 < (lenI x402.2.2.1)))) (Option.bind (idx p.1 (i:Int)) fun x404 =>
Option.bind (idx x404.2.2.1 s400.2) fun x405 =>
Option.bind (zg1 x405.1 0 ((w64 ((lenI p.2.1) - 1)))) fun y410 =>
cond ((!y410)) (some (.inr ((.inr false)))) (Option.bind (zg6 p x405) fun y413 =>
cond ((y413 != (i:Int))) (some (.inr ((.inr false)))) (Option.bind (iter (σ:=(Int)) (τ:=Unit ⊕ (Bool)) (fun s419 =>
cond ((decide (s419 < (lenI s400.1)))) (Option.bind (idx s400.1 s419) fun x423 =>
cond ((x423 == x405)) (some (.inr ((.inr false)))) (some (.inl ((w64 (s419 + 1)))))) (some (.inr ((.inl (())))))) big 0) fun t425 =>
alt (fun b427=>Option.bind (appO 16 s400.1 ([x405])) fun x429 =>
some (.inl ((x429,(w64 (s400.2 + 1)))))) (fun b428=>some (.inr ((.inr b428)))) t425))) (some (.inr ((.inl s400.1))))) big ((acc,0)) = some (match scanE p i p.1[i].2.2.1 acc with | some acc'=>.inl acc' | none=>.inr false):=by
  rw [zb6 (s0:=(acc,(0:Int))) p.1[i].2.2.1 (fun k acc=>(acc,(k:Int))) (fun _ acc e=>if eOk p i acc e then .inl (acc ++ [e]) else .inr (.inr false)) (fun acc=>.inl acc) (fun k acc=>acc.length ≤ 5000 + k) acc rfl (by omega) hacc]
  · rw [zr16]
  · intro k hk acc ha
    simp only []
    refine ⟨?_,fun b' hb=>?_⟩
    · rw [zr3 hi,Option.bind_some,zr1 hk,cond_true,Option.bind_some,zr3 hk,Option.bind_some,rin1,Option.bind_some,wrails hR]
      obtain ⟨e,he⟩:∃ e,e = p.1[i].2.2.1[k]:=⟨_,rfl⟩
      rw [← he]
      unfold eOk
      cases h1:inB e.1 0 (p.2.1.length - 1) with
      | false=>rfl
      | true =>
        have h1':=zo3.1 h1
        rw [(zq12 (p:=p) (e:=e) (by omega)).2]
        simp only [Bool.not_true,cond_false,Bool.true_and,Option.bind_some,bne]
        cases h3:(atS p e == (i:Int)) with
        | false=>rfl
        | true =>
          simp only [Bool.not_true,cond_false,Bool.true_and]
          rw [zy34 acc e (by omega),Option.bind_some]
          by_cases h2:e ∈ acc
          · rw [if_pos (decide_eq_true h2),decide_eq_true h2]; rfl
          · rw [if_neg (by rw [decide_eq_true_eq]; exact h2),decide_eq_false h2]
            simp only [zz3,Bool.not_false,if_true]
            rw [zf5 (by simp only [List.length_singleton]; omega),Option.bind_some,zc1 (by omega)]
    · split at hb
      · cases hb
        rw [List.length_append,List.length_singleton]; omega
      · cases hb
  · intro acc _
    simp only []
    rw [zr3 hi,Option.bind_some,zb2,cond_false]
theorem zh31 (p:Plan):zl5 p = some (validB p):=by
 unfold zl5 validB
 rw [rin1,rin1]
 cases h1:inB (lenI p.1) 1 300 with
 | false=>rfl
 | true =>
 cases h2:inB (lenI p.2.1) 1 400 with
 | false=>rfl
 | true =>
 have hN:=zo3.1 h1
 have hR:=zo3.1 h2
 rw [zo1] at hN hR
 have hN:1 ≤ p.1.length ∧ p.1.length ≤ 300:=by omega
 have hR:1 ≤ p.2.1.length ∧ p.2.1.length ≤ 400:=by omega
 simp only [Option.bind_some,Bool.not_true,cond_false,Bool.true_and]
 rw [zj10 p.1 nodeB false (by omega)]
 rotate_left
 ·intro i h
  rw [zr1 h,cond_true,zr3 h,Option.bind_some,zx34,zh (by omega) (by omega)]
  cases nodeB p.1[i] <;> rfl
 ·rw [zb2,cond_false]
 cases h3:p.1.all nodeB with
 | false=>rfl
 | true =>
 simp only [if_true,Option.bind_some,zz3,Bool.true_and]
 rw [zj10 p.2.1 (railB p) false (by omega)]
 rotate_left
 ·intro i h
  rw [zr1 h,cond_true]
  exact zw34 hN h3 h hR.2
 ·rw [zb2,cond_false]
 cases h4:p.2.1.all (railB p) with
 | false=>rfl
 | true =>
 simp only [if_true,Option.bind_some,zz3,Bool.true_and]
 have hfold:∀ (ns:List ANode) (i:Nat) (acc:List RailEnd),foldE (fun i acc (n:ANode)=>match scanE p i n.2.2.1 acc with | some acc'=>.inl acc' | none=>.inr (.inr false)) (fun acc=>.inl acc) ns i acc = (match scanN p ns i acc with | some acc=>.inl acc | none=>.inr false:List RailEnd ⊕ Bool):=by
  intro ns
  induction ns with
  | nil=>intro i acc; rfl
  | cons n ns ih =>
   intro i acc
   rw [foldE,scanN]
   cases scanE p i n.2.2.1 acc with
   | none=>rfl
   | some acc'=>exact ih (i + 1) acc'
 rw [zb6 (s0:=(([]:List RailEnd),(0:Int))) p.1 (fun k acc=>(acc,(k:Int))) (fun i acc (n:ANode)=>match scanE p i n.2.2.1 acc with | some acc'=>.inl acc' | none=>.inr (.inr false)) (fun acc=>.inl acc) (fun k acc=>acc.length ≤ 4 * k) [] rfl (by omega) (by simp)]
 rotate_left
 ·intro i hi acc hacc
  have hes:=zd8 (List.all_eq_true.1 h3 _ (List.getElem_mem hi))
  simp only []
  refine ⟨?_,fun b' hb=>?_⟩
  ·rw [zr1 hi,cond_true,zn27 hR hi acc hes (by omega),Option.bind_some]
   cases hs:scanE p i p.1[i].2.2.1 acc with
   | none=>rfl
   | some acc'=>simp only [zz3]; rw [zc1 (by omega)]
  ·cases hs:scanE p i p.1[i].2.2.1 acc with
   | none=>rw [hs] at hb; cases hb
   | some acc' =>
    rw [hs] at hb
    cases hb
    rw [zr12 hs,List.length_append]
    omega
 ·intro acc _
  simp only []
  rw [zb2,cond_false]
 rw [hfold,Option.bind_some]
 unfold endsB
 cases h5:scanN p p.1 0 [] with
 | none=>rfl
 | some acc =>
  simp only [zz3]
  rw [zo1,zo1,zh (n:=2 * (p.2.1.length:Int)) (by omega) (by omega)]
  by_cases hq:(acc.length:Int) = 2 * p.2.1.length
  ·rw [hq]; simp
  ·rw [decide_eq_false hq]
   congr 1
   simpa using hq
end Go.Ai.Sx

/- Tracks: what is known of a valid plan; which moves follow. -/
namespace Go.Ai.Sx
theorem zj18 {A:Type} [DecidableEq A]:∀ {l m:List A},l.Nodup → (∀ x ∈ l,x ∈ m) → l.length ≤ m.length
 | [],_,_,_=>Nat.zero_le _
 | x :: l,m,hn,hs=>by
  have hn':=List.nodup_cons.1 hn
  have h1:∀ y ∈ l,y ∈ m.erase x:=fun y hy=>(List.mem_erase_of_ne (fun e=>hn'.1 (by rw [← e]; exact hy))).2 (hs y (List.mem_cons_of_mem _ hy))
  have h2:=zj18 hn'.2 h1
  have h3:=List.length_erase_of_mem (hs x List.mem_cons_self)
  have h4:0 < m.length:=List.length_pos_of_mem (hs x List.mem_cons_self)
  simp only [List.length_cons]
  omega
theorem zv23 {A:Type} [DecidableEq A] {l m:List A} (hn:l.Nodup) (hs:∀ x ∈ l,x ∈ m) (hl:m.length ≤ l.length) {y:A} (hy:y ∈ m):y ∈ l:=by
 apply Classical.byContradiction
 intro h
 have:=zj18 (l:=y :: l) (m:=m) (List.nodup_cons.2 ⟨h,hn⟩) (fun x hx=>(List.mem_cons.1 hx).elim (fun e=>e ▸ hy) (hs x))
 simp only [List.length_cons] at this
 omega
theorem zk18 {A B:Type} {f:A → List B}:∀ {l:List A},(l.flatMap f).Nodup → ∀ x ∈ l,(f x).Nodup
 | [],_,x,hx=>by cases hx
 | y :: l,h,x,hx=>by
  rw [List.flatMap_cons,List.nodup_append] at h
  rcases List.mem_cons.1 hx with rfl | hx
  ·exact h.1
  ·exact zk18 h.2.1 x hx
theorem zf22 {p:Plan} {i:Nat}:∀ {es acc acc':List RailEnd},scanE p i es acc = some acc' → acc.Nodup → acc'.Nodup ∧ ∀ e ∈ es,(0 ≤ e.1 ∧ e.1 ≤ p.2.1.length - 1) ∧ atS p e = (i:Int)
 | [],acc,acc',h,hn=>by cases h; exact ⟨hn,fun e he=>(nomatch he)⟩
 | e :: es,acc,acc',h,hn=>by
  unfold scanE at h
  split at h
  ·rename_i hk
   unfold eOk at hk
   simp only [Bool.and_eq_true,zo3,beq_iff_eq,Bool.not_eq_true',decide_eq_false_iff_not] at hk
   obtain ⟨k1,k2,k3⟩:=hk
   have hn':(acc ++ [e]).Nodup:=by
    rw [List.nodup_append]
    refine ⟨hn,by simp,fun a ha b hb=>?_⟩
    rw [List.mem_singleton] at hb
    subst hb
    exact fun q=>k3 (q ▸ ha)
   obtain ⟨h1,h2⟩:=zf22 h hn'
   refine ⟨h1,fun x hx=>?_⟩
   rcases List.mem_cons.1 hx with rfl | hx
   ·exact ⟨k1,k2⟩
   ·exact h2 x hx
  ·cases h
theorem zg22 {p:Plan}:∀ {ns:List ANode} {i:Nat} {acc acc':List RailEnd},scanN p ns i acc = some acc' → acc.Nodup → acc' = acc ++ ns.flatMap (fun n=>n.2.2.1) ∧ acc'.Nodup ∧ ∀ (k:Nat) (h:k < ns.length),∀ e ∈ ns[k].2.2.1,(0 ≤ e.1 ∧ e.1 ≤ p.2.1.length - 1) ∧ atS p e = ((i + k:Nat):Int)
 | [],i,acc,acc',h,hn=>by cases h; exact ⟨by simp,hn,fun k hk=>(nomatch hk)⟩
 | n :: ns,i,acc,acc',h,hn=>by
  rw [scanN] at h
  cases hs:scanE p i n.2.2.1 acc with
  | none=>rw [hs] at h; cases h
  | some a =>
   rw [hs] at h
   obtain ⟨a1,a2⟩:=zf22 hs hn
   obtain ⟨b1,b2,b3⟩:=zg22 h a1
   refine ⟨?_,b2,fun k hk e he=>?_⟩
   ·rw [b1,zr12 hs]; simp
   ·cases k with
    | zero=>exact a2 e he
    | succ k =>
     have:=b3 k (by simpa using hk) e he
     rw [show i + (k + 1) = i + 1 + k by omega]
     exact this
structure PlOk (p:Plan):Prop where
 n:1 ≤ p.1.length ∧ p.1.length ≤ 300
 r:1 ≤ p.2.1.length ∧ p.2.1.length ≤ 400
 nb:p.1.all nodeB = true
 rb:p.2.1.all (railB p) = true
 at_:∀ (k:Nat) (h:k < p.1.length),∀ e ∈ p.1[k].2.2.1,(0 ≤ e.1 ∧ e.1 < p.2.1.length) ∧ atS p e = (k:Int)
 ndp:(p.1.flatMap fun n=>n.2.2.1).Nodup
 full:∀ e:RailEnd,0 ≤ e.1 ∧ e.1 < p.2.1.length → e ∈ p.1.flatMap fun n=>n.2.2.1
def allE (R:Nat):List RailEnd:=(List.range R).flatMap fun r:Nat=>[((r:Int),false,()),((r:Int),true,())]
theorem zz34 (R:Nat):(allE R).length = 2 * R:=by
 induction R with
 | zero=>rfl
 | succ R ih =>
  unfold allE at *
  rw [List.range_succ,List.flatMap_append,List.length_append,ih]
  simp
  omega
theorem zm25 {R:Nat} {e:RailEnd}:e ∈ allE R ↔ 0 ≤ e.1 ∧ e.1 < R:=by
 unfold allE
 simp only [List.mem_flatMap,List.mem_range,List.mem_cons,List.not_mem_nil,or_false]
 constructor
 ·rintro ⟨r,hr,rfl | rfl⟩ <;> simp only [] <;> omega
 ·obtain ⟨r,b,⟨⟩⟩:=e
  simp only []
  intro h
  refine ⟨r.toNat,by omega, ?_⟩
  have:(r.toNat:Int) = r:=by omega
  rw [this]
  cases b
  ·exact .inl rfl
  ·exact .inr rfl
theorem zw10 {p:Plan} (h:validB p = true):PlOk p:=by
 unfold validB at h
 simp only [Bool.and_eq_true,zo3,zo1] at h
 obtain ⟨⟨⟨h1,h2⟩,h3,h4⟩,h5⟩:=h
 unfold endsB at h5
 cases hs:scanN p p.1 0 [] with
 | none=>rw [hs] at h5; cases h5
 | some acc =>
  rw [hs] at h5
  have h5:=of_decide_eq_true h5
  obtain ⟨a1,a2,a3⟩:=zg22 hs List.nodup_nil
  rw [List.nil_append] at a1
  subst a1
  have hat:∀ (k:Nat) (h:k < p.1.length),∀ e ∈ p.1[k].2.2.1,(0 ≤ e.1 ∧ e.1 < p.2.1.length) ∧ atS p e = (k:Int):=fun k hk e he=>by
   obtain ⟨b1,b2⟩:=a3 k hk e he
   rw [Nat.zero_add] at b2
   exact ⟨⟨b1.1,by omega⟩,b2⟩
  refine ⟨by omega,by omega,h3,h4,hat,a2,fun e he=>?_⟩
  refine zv23 (m:=allE p.2.1.length) a2 (fun x hx=>?_) (by rw [zz34]; omega) (zm25.2 he)
  obtain ⟨n,hn,hx⟩:=List.mem_flatMap.1 hx
  obtain ⟨k,hk,rfl⟩:=List.getElem_of_mem hn
  exact zm25.2 (hat k hk x hx).1
section
variable {p:Plan} (hp:PlOk p)
include hp
theorem PlOk.rail {i:Int} (hi:0 ≤ i ∧ i < p.2.1.length):railB p (rl0 p i) = true:=by
 have hlt:i.toNat < p.2.1.length:=by omega
 have:rl0 p i = p.2.1[i.toNat]:=by unfold rl0; simp [List.getD,hlt]
 rw [this]
 exact List.all_eq_true.1 hp.rb _ (List.getElem_mem hlt)
theorem PlOk.ix {i:Int} (hi:0 ≤ i ∧ i < p.2.1.length):RIx p (rl0 p i):=by
 have:=hp.rail hi
 unfold railB at this
 rw [Bool.and_eq_true] at this
 exact zx19 this.1
theorem PlOk.at_bd {e:RailEnd} (he:0 ≤ e.1 ∧ e.1 < p.2.1.length):0 ≤ atS p e ∧ atS p e < p.1.length:=by
 have:=hp.ix he
 unfold atS
 split
 ·exact this.t
 ·exact this.f
theorem PlOk.nd_eq {i:Int} (hi:0 ≤ i ∧ i < p.1.length):nd p i = p.1[i.toNat]'(by omega):=by
 have _:=hp
 have hlt:i.toNat < p.1.length:=by omega
 unfold Sx.nd
 simp [List.getD,hlt]
theorem PlOk.nodeB {i:Int} (hi:0 ≤ i ∧ i < p.1.length):Sx.nodeB (Sx.nd p i) = true:=by
 rw [hp.nd_eq hi]
 exact List.all_eq_true.1 hp.nb _ (List.getElem_mem _)
theorem PlOk.mem {e:RailEnd} (he:0 ≤ e.1 ∧ e.1 < p.2.1.length):e ∈ (Sx.nd p (atS p e)).2.2.1:=by
 obtain ⟨n,hn,hx⟩:=List.mem_flatMap.1 (hp.full e he)
 obtain ⟨k,hk,rfl⟩:=List.getElem_of_mem hn
 have h1:=(hp.at_ k hk e hx).2
 rw [h1,hp.nd_eq (by omega)]
 exact hx
theorem PlOk.ndn {i:Int} (hi:0 ≤ i ∧ i < p.1.length):(Sx.nd p i).2.2.1.Nodup:=by
 rw [hp.nd_eq hi]
 exact zk18 hp.ndp _ (List.getElem_mem _)
theorem PlOk.spots {i:Int} (hi:0 ≤ i ∧ i < p.2.1.length):(lineS p (rl0 p i)).all spotB = true ∧ segOk (lineS p (rl0 p i)) = true:=by
 have:=hp.rail hi
 unfold railB at this
 simp only [Bool.and_eq_true] at this
 exact this.2
theorem PlOk.len {i:Int} (hi:0 ≤ i ∧ i < p.2.1.length):1 ≤ lenS (lineS p (rl0 p i)) ∧ lenS (lineS p (rl0 p i)) ≤ 31000000:=by
 obtain ⟨h1,h2⟩:=hp.spots hi
 have h3:=(hp.ix hi).s
 have h4:=zk10 p (rl0 p i)
 unfold segOk at h2
 have h5:∀ j,1 ≤ j → j < 1 + ((lineS p (rl0 p i)).length - 1) → 1 ≤ segS (lineS p (rl0 p i)) j ∧ segS (lineS p (rl0 p i)) j ≤ 1000000:=fun j j1 j2=>by
  have:=List.all_eq_true.1 h2 (j - 1) (List.mem_range.2 (by omega))
  unfold segB at this
  rw [show j - 1 + 1 = j by omega] at this
  exact zo3.1 this
 have h6:=zp16 (f:=segS (lineS p (rl0 p i))) (B:=1000000) ((lineS p (rl0 p i)).length - 1) 1 (fun j j1 j2=>by have:=h5 j j1 j2; omega)
 unfold lenS
 refine ⟨?_,by omega⟩
 rw [show (lineS p (rl0 p i)).length - 1 = (rl0 p i).2.2.1.length + 1 by omega,sumR]
 have:=h5 1 (by omega) (by omega)
 have:=zp16 (f:=segS (lineS p (rl0 p i))) (B:=1000000) ((rl0 p i).2.2.1.length) (1 + 1) (fun j j1 j2=>by have:=h5 j (by omega) (by omega); omega)
 omega
end
end Go.Ai.Sx

/- Tracks: a network; which moves follow. -/
namespace Go.Ai.Sx
theorem zi31 {xs:List Int} {i:Nat} (h:i + 1 < xs.length):((xs.set (i + 1) (xs[i]'(by omega))).set i xs[i + 1]).Perm xs:=by
 induction i generalizing xs with
 | zero =>
  match xs,h with
  | a :: b :: t,_=>exact List.Perm.swap a b t
 | succ i ih =>
  match xs,h with
  | a :: t,h =>
   simp only [List.length_cons] at h
   simp only [List.set_cons_succ,List.getElem_cons_succ]
   exact List.Perm.cons a (ih (by omega))
theorem zz39 (a b:Int):∃ c:Bool,zu2 a b = some c:=by
 unfold zu2
 simp only [zd5,Option.bind_some]
 cases decide (a < b) <;> (try exact ⟨_,rfl⟩) <;> (by_cases h:a = a <;> simp)
theorem za35 {xs:List Int} (hl:xs.length ≤ 1000):∃ ys,zd1 xs 0 (lenI xs) = some ys ∧ ys.Perm xs:=by
  have hin:∀ (j:Nat) (ys:List Int),j < ys.length → ys.length = xs.length → ys.Perm xs → Tot (fun zs:List Int=>zs.Perm xs) (iter (σ:=(Int × (List Int))) (τ:=((List Int))) (fun s190 =>
cond ((decide (s190.1 > 0))) (Option.bind (idx s190.2 s190.1) fun x201 =>
Option.bind (idx s190.2 ((w64 (s190.1 - 1)))) fun x202 =>
Option.bind (zu2 x201 x202) fun y203 =>
cond (y203) (Option.bind (idx s190.2 ((w64 (s190.1 - 1)))) fun x209 =>
Option.bind (idx s190.2 s190.1) fun x210 =>
Option.bind (idx s190.2 s190.1) fun x211 =>
Option.bind (idx ((s190.2).set (Int.toNat s190.1) x209) ((w64 (s190.1 - 1)))) fun x212 =>
some (.inl (((w64 (s190.1 - 1)),((s190.2).set (Int.toNat s190.1) x209).set (Int.toNat ((w64 (s190.1 - 1)))) x210)))) (some (.inr s190.2))) (some (.inr s190.2))) big (((j:Nat):Int),ys)):=by
    intro j ys hj hly hp
    refine Tot.iter (fun s:Int × List Int=>∃ k:Nat,s.1 = (k:Int) ∧ k < s.2.length ∧ s.2.length = xs.length ∧ s.2.Perm xs) _ (fun s=>s.1.toNat) ⟨j,rfl,hj,hly,hp⟩ (by simp only [big]; omega) ?_
    rintro ⟨s1,zs⟩ ⟨k,rfl,hk,hlz,hpz⟩
    simp only [] at hk hlz hpz ⊢
    cases k with
    | zero=>exact Tot.some hpz
    | succ k =>
      rw [decide_eq_true (show ((k + 1:Nat):Int) > 0 by omega),cond_true,zr3 hk,Option.bind_some,zh (n:=((k + 1:Nat):Int) - 1) (by omega) (by omega),show ((k + 1:Nat):Int) - 1 = (k:Int) by omega,zr3 (show k < zs.length by omega),Option.bind_some]
      obtain ⟨c,hc⟩:=zz39 zs[k + 1] (zs[k]'(by omega))
      rw [hc,Option.bind_some]
      cases c with
      | false=>exact Tot.some hpz
      | true =>
        simp only [cond_true,Option.bind_some,Int.toNat_natCast]
        rw [zr3 (show k < (zs.set (k + 1) (zs[k]'(by omega))).length by rw [List.length_set]; omega),Option.bind_some]
        refine Tot.some ⟨⟨k,rfl, ?_, ?_, ?_⟩, ?_⟩
        · simp only [List.length_set]; omega
        · simp only [List.length_set]; exact hlz
        · exact (zi31 hk).trans hpz
        · simp only [Int.toNat_natCast]; omega
  unfold zd1
  have:Tot (fun zs:List Int=>zs.Perm xs) (iter (σ:=(Int × (List Int))) (τ:=((List Int))) (fun s143 =>
cond ((decide (s143.1 < (lenI xs)))) (Option.bind (iter (σ:=(Int × (List Int))) (τ:=((List Int))) (fun s190 =>
cond ((decide (s190.1 > 0))) (Option.bind (idx s190.2 s190.1) fun x201 =>
Option.bind (idx s190.2 ((w64 (s190.1 - 1)))) fun x202 =>
Option.bind (zu2 x201 x202) fun y203 =>
cond (y203) (Option.bind (idx s190.2 ((w64 (s190.1 - 1)))) fun x209 =>
Option.bind (idx s190.2 s190.1) fun x210 =>
Option.bind (idx s190.2 s190.1) fun x211 =>
Option.bind (idx ((s190.2).set (Int.toNat s190.1) x209) ((w64 (s190.1 - 1)))) fun x212 =>
some (.inl (((w64 (s190.1 - 1)),((s190.2).set (Int.toNat s190.1) x209).set (Int.toNat ((w64 (s190.1 - 1)))) x210)))) (some (.inr s190.2))) (some (.inr s190.2))) big ((s143.1,s143.2))) fun t214 =>
some (.inl (((w64 (s143.1 + 1)),t214)))) (some (.inr s143.2))) big (((w64 (0 + 1)),xs))):=by
    refine Tot.iter (fun s:Int × List Int=>∃ k:Nat,s.1 = (k:Int) ∧ s.2.length = xs.length ∧ s.2.Perm xs) _ (fun s=>xs.length + 1 - s.1.toNat) ⟨1,rfl,rfl,List.Perm.refl _⟩ (by simp only [big]; omega) ?_
    rintro ⟨s1,zs⟩ ⟨k,rfl,hlz,hpz⟩
    simp only [] at hlz hpz ⊢
    by_cases hk:k < xs.length
    · rw [zr1 hk,cond_true]
      refine (hin k zs (by omega) hlz hpz).bind fun ys hys=>?_
      refine Tot.some ⟨⟨k + 1,zc1 (by omega),hys.length_eq,hys⟩, ?_⟩
      simp only [zc1 (show k < 9223372036854775807 by omega),Int.toNat_natCast]
      omega
    · rw [decide_eq_false (show ¬ (k:Int) < lenI xs by rw [zo1]; omega)]
      exact Tot.some hpz
  obtain ⟨ys,h1,h2⟩:=this
  exact ⟨ys,by rw [h1]; rfl,h2⟩
theorem zj31 (n:Nat) (h:n ≤ 4):∃ k,zx5 (IntKind.u64.wrap (n:Int)) = some k:=by
 match n,h with
 | 0,_=>exact ⟨0,by kernel_rfl⟩
 | 1,_=>exact ⟨1,by kernel_rfl⟩
 | 2,_=>exact ⟨2,by kernel_rfl⟩
 | 3,_=>exact ⟨2,by kernel_rfl⟩
 | 4,_=>exact ⟨3,by kernel_rfl⟩
theorem zk31 {xs:List Int} (hl:xs.length ≤ 4):∃ ys,zt3 xs = some ys ∧ ys.Perm xs:=by
  obtain ⟨k,hk⟩:=zj31 xs.length hl
  obtain ⟨ys,h1,h2⟩:=za35 (xs:=xs) (by omega)
  refine ⟨ys, ?_,h2⟩
  unfold zt3
  rw [show lenI xs = (xs.length:Int) from rfl,hk,Option.bind_some]
  unfold zd3
  have hL:Lp (fun s11:Int × Int × Int × Bool × Bool × List Int =>
cond ((decide ((w64 (s11.2.1 - s11.1)) ≤ 12))) (Option.bind (zd1 s11.2.2.2.2.2 s11.1 s11.2.1) fun y14 =>
some (Sum.inr y14)) (cond ((s11.2.2.1 == 0)) (none) (cond ((!s11.2.2.2.1)) (none) (none)))) 0 ((0,(xs.length:Int),k,true,true,xs)) ys:=by
    refine Lp.done ?_
    simp only []
    rw [zh (by omega) (by omega),decide_eq_true (by omega),cond_true,show ((xs.length:Nat):Int) = lenI xs from rfl,h1]
    rfl
  rw [hL.big (by simp only [big]; omega)]
  rfl
end Go.Ai.Sx

/- Tracks: a network; which moves follow; ways. -/
namespace Go.Ai.Sx
theorem zq13 {A B:Type} [DecidableEq A] (v:B) (a b:A):∀ es:List (A × B),mget (mset es a v) b = if b = a then some v else mget es b
 | []=>rfl
 | (k,w) :: es=>by
  rw [mset]
  by_cases h:a = k
  ·subst h
   rw [if_pos rfl,mget,mget]
   by_cases h2:b = a
   ·rw [if_pos h2,if_pos h2]
   ·rw [if_neg h2,if_neg h2,if_neg h2]
  ·rw [if_neg h,mget,zq13 v a b es,mget]
   by_cases h2:b = k
   ·subst h2
    rw [if_pos rfl,if_pos rfl,if_neg (fun q=>h q.symm)]
   ·rw [if_neg h2,if_neg h2]
theorem zh22 {A B:Type} [DecidableEq A]:∀ (L:List (A × B)) (m:List (A × B)) (e:A) (k:B),(L.map (·.1)).Nodup → (e,k) ∈ L → mget (L.foldl (fun m x=>mset m x.1 x.2) m) e = some k
 | (a,v) :: L,m,e,k,hn,h=>by
  rw [List.map_cons,List.nodup_cons] at hn
  rw [List.foldl_cons]
  rcases List.mem_cons.1 h with q | q
  ·obtain ⟨q1,q2⟩:=Prod.mk.injEq .. ▸ q
   subst q1 q2
   have key:∀ (L:List (A × B)) (m:List (A × B)),e ∉ L.map (·.1) → mget (L.foldl (fun m x=>mset m x.1 x.2) m) e = mget m e:=by
    intro L
    induction L with
    | nil=>intro m _; rfl
    | cons y L ih =>
     intro m hne
     rw [List.map_cons,List.mem_cons,not_or] at hne
     rw [List.foldl_cons,ih _ hne.2,zq13,if_neg hne.1]
   rw [key L _ hn.1,zq13,if_pos rfl]
  ·exact zh22 L _ e k hn.2 q
def rlN {A:Type} (n:Nat) (f:Nat → A):List A:=(List.range n).map f
def ixE (n:ANode):List (RailEnd × Int):=n.2.2.1.zipIdx.map fun x=>(x.1,(x.2:Int))
def plS (p:Plan):List (RailEnd × Int):=(p.1.flatMap ixE).foldl (fun m x=>mset m x.1 x.2) []
def lenP (p:Plan) (i:Int):Int:=lenS (lineS p (rl0 p i))
def netW (p:Plan):zn2:=((p.1,p.2.1,()),rlN p.2.1.length (fun i=>lenP p (i:Int)),plS p,())
theorem zb35 (n:ANode):(ixE n).map (·.1) = n.2.2.1:=by
 unfold ixE
 rw [List.map_map]
 have:((fun x:RailEnd × Int=>x.1) ∘ fun x:RailEnd × Nat=>(x.1,(x.2:Int))) = fun x=>x.1:=rfl
 rw [this,List.zipIdx_map_fst]
theorem za40 {p:Plan} (hp:PlOk p) {i k:Nat} (hi:i < p.1.length) (hk:k < p.1[i].2.2.1.length):mget (plS p) p.1[i].2.2.1[k] = some (k:Int):=by
 unfold plS
 refine zh22 _ _ _ _ ?_ ?_
 ·rw [List.map_flatMap]
  have:(p.1.flatMap fun n=>(ixE n).map (·.1)) = p.1.flatMap fun n=>n.2.2.1:=by
   congr 1
   funext n
   exact zb35 n
  rw [this]
  exact hp.ndp
 ·refine List.mem_flatMap.2 ⟨p.1[i],List.getElem_mem hi, ?_⟩
  unfold ixE
  exact List.mem_map.2 ⟨(p.1[i].2.2.1[k],k),List.mem_zipIdx_iff_getElem?.2 (by simp [hk]),rfl⟩
theorem zl31 (p:Plan):zc7 p = some (if validB p then (some (netW p),true) else (none,false)):=by
 unfold zc7
 rw [zg31]
 cases hv:validB p with
 | false=>rfl
 | true =>
 have hp:=zw10 hv
 have hN:=hp.n
 have hR:=hp.r
 simp only [if_true,Option.bind_some,show ((0:Int) != 0) = false from rfl,cond_false]
 -- the lengths
 rw [zb6 (s0:=((0:Int),([]:List Int))) p.2.1 (fun k c=>((k:Int),c)) (fun i c _=>(.inl (c ++ [lenP p (i:Int)]):List Int ⊕ List Int)) id (fun k c=>c.length = k) [] rfl (by omega) rfl]
 rotate_left
 ·intro i hi c hc
  simp only []
  refine ⟨?_,fun b' hb=>by cases hb; rw [List.length_append,List.length_singleton,hc]⟩
  have hrl:rl0 p (i:Int) = p.2.1[i]:=by unfold rl0; simp [List.getD,hi]
  have hix:=hp.ix (i:=(i:Int)) (by omega)
  have hsp:=hp.spots (i:=(i:Int)) (by omega)
  rw [zr1 hi,cond_true,zr3 hi,Option.bind_some,← hrl,zb31 hix,Option.bind_some,zj25 hsp.1 (by rw [zk10]; have:=hix.s; omega) (sp:=fun a b=>zl4 a b) (fun a b=>za31),Option.bind_some,zf5 (by simp only [List.length_singleton]; omega),Option.bind_some,zc1 (by omega)]
  rfl
 ·intro c _
  simp only []
  rw [zb2,cond_false]; rfl
 have hlens:foldE (fun i c (_:Rail)=>(.inl (c ++ [lenP p (i:Int)]):List Int ⊕ List Int)) id p.2.1 0 [] = rlN p.2.1.length (fun i=>lenP p (i:Int)):=by
  have key:∀ (l:List Rail) (i:Nat) (c:List Int),foldE (fun i c (_:Rail)=>(.inl (c ++ [lenP p (i:Int)]):List Int ⊕ List Int)) id l i c = c ++ (List.range' i l.length).map (fun i:Nat=>lenP p (i:Int)):=by
   intro l
   induction l with
   | nil=>intro i c; simp [foldE]
   | cons x l ih =>
    intro i c
    rw [foldE]
    exact (ih (i + 1) _).trans (by rw [List.length_cons,List.range'_succ,List.map_cons,List.append_assoc]; rfl)
  rw [key,List.nil_append,← List.range_eq_range']; rfl
 rw [hlens,Option.bind_some]
 -- the places
 rw [zb6 (s0:=((0:Int),([]:List (RailEnd × Int)))) p.1 (fun k c=>((k:Int),c)) (fun _ c n=>(.inl ((ixE n).foldl (fun m x=>mset m x.1 x.2) c):List (RailEnd × Int) ⊕ List (RailEnd × Int))) id (fun _ _=>True) [] rfl (by omega) trivial]
 rotate_left
 ·intro i hi c _
  simp only []
  refine ⟨?_,fun _ _=>trivial⟩
  have hes:=zd8 (List.all_eq_true.1 hp.nb _ (List.getElem_mem hi))
  rw [zr1 hi,cond_true,zr3 hi,Option.bind_some]
  rw [zb6 (s0:=((0:Int),c)) p.1[i].2.2.1 (fun k c=>((k:Int),c)) (fun k c e=>(.inl (mset c e (k:Int)):List (RailEnd × Int) ⊕ List (RailEnd × Int))) id (fun _ _=>True) c rfl (by omega) trivial]
  ·rw [zk16 (fun k c e=>mset c e (k:Int)) id,Option.bind_some,zc1 (by omega)]
   unfold ixE
   rw [List.foldl_map]; rfl
  ·intro k hk c _
   simp only []
   refine ⟨?_,fun _ _=>trivial⟩
   rw [zr1 hk,cond_true,zr3 hk,Option.bind_some,zc1 (by omega)]
  ·intro c _
   simp only []
   rw [zb2,cond_false]; rfl
 ·intro c _
  simp only []
  rw [zb2,cond_false]; rfl
 rw [zv10 (fun c n=>(ixE n).foldl (fun m x=>mset m x.1 x.2) c) id,Option.bind_some]
 have hpl:p.1.foldl (fun c n=>(ixE n).foldl (fun m x=>mset m x.1 x.2) c) [] = plS p:=by
  unfold plS
  rw [List.foldl_flatMap]
 rw [hpl]
 rfl
def letsB (n:ANode) (a b:Int):Bool :=
 if n.2.1 = 2 then a != b else if n.2.1 = 3 then a != b && ((a + b).tmod 2 == 0) else if n.2.1 = 4 then (a == 0 && decide (b > 0)) || (decide (a > 0) && b == 0)
 else if n.2.1 = 5 then (a == 0 && b == n.2.2.2.1) || (decide (a > 0) && b == 0) else if n.2.1 = 6 then (a == 0 && b == n.2.2.2.1) || (a == n.2.2.2.1 && b == 0) else false
theorem zc35 (n:ANode) {a b:Int} (ha:0 ≤ a ∧ a ≤ 10) (hb:0 ≤ b ∧ b ≤ 10):zz5 n a b = some (letsB n a b):=by
 unfold zz5 letsB
 by_cases h2:n.2.1 = 2
 ·rw [h2]; rfl
 by_cases h3:n.2.1 = 3
 ·rw [h3]
  simp only [show ((3:Int) == 2) = false from rfl,show ((3:Int) == 3) = true from rfl,cond_false,cond_true,show ¬ (3:Int) = 2 by decide,if_false,if_true]
  rw [zh (by omega) (by omega)]
  cases (a != b) <;> rfl
 by_cases h4:n.2.1 = 4
 ·rw [h4]
  simp only [show ((4:Int) == 2) = false from rfl,show ((4:Int) == 3) = false from rfl,show ((4:Int) == 4) = true from rfl,cond_false,cond_true,show ¬ (4:Int) = 2 by decide,show ¬ (4:Int) = 3 by decide,if_false,if_true]
  cases (a == 0) <;> cases decide (b > 0) <;> cases decide (a > 0) <;> cases (b == 0) <;> rfl
 by_cases h5:n.2.1 = 5
 ·rw [h5]
  simp only [show ((5:Int) == 2) = false from rfl,show ((5:Int) == 3) = false from rfl,show ((5:Int) == 4) = false from rfl,show ((5:Int) == 5) = true from rfl,cond_false,cond_true,show ¬ (5:Int) = 2 by decide,show ¬ (5:Int) = 3 by decide,show ¬ (5:Int) = 4 by decide,if_false,if_true]
  cases (a == 0) <;> cases (b == n.2.2.2.1) <;> cases decide (a > 0) <;> cases (b == 0) <;> rfl
 by_cases h6:n.2.1 = 6
 ·rw [h6]
  simp only [show ((6:Int) == 2) = false from rfl,show ((6:Int) == 3) = false from rfl,show ((6:Int) == 4) = false from rfl,show ((6:Int) == 5) = false from rfl,show ((6:Int) == 6) = true from rfl,cond_false,cond_true,show ¬ (6:Int) = 2 by decide,show ¬ (6:Int) = 3 by decide,show ¬ (6:Int) = 4 by decide,show ¬ (6:Int) = 5 by decide,if_false,if_true]
  cases (a == 0) <;> cases (b == n.2.2.2.1) <;> cases (a == n.2.2.2.1) <;> cases (b == 0) <;> rfl
 rw [if_neg h2,if_neg h3,if_neg h4,if_neg h5,if_neg h6]
 have e2:(n.2.1 == 2) = false:=by simpa using h2
 have e3:(n.2.1 == 3) = false:=by simpa using h3
 have e4:(n.2.1 == 4) = false:=by simpa using h4
 have e5:(n.2.1 == 5) = false:=by simpa using h5
 have e6:(n.2.1 == 6) = false:=by simpa using h6
 rw [e2,e3,e4,e5,e6]; rfl
theorem zb40 {n:ANode} (h:nodeB n = true):n.2.1 = 1 ∨ n.2.1 = 2 ∨ n.2.1 = 3 ∨ n.2.1 = 4 ∨ n.2.1 = 5 ∨ n.2.1 = 6:=by
 unfold nodeB at h
 simp only [Bool.and_eq_true,bne_iff_ne] at h
 have h1:=h.1.1.2
 apply Classical.byContradiction
 intro q
 exact h1 (zq16 (by omega))
theorem zc40 {n:ANode} (hn:nodeB n = true) {a b:Int} (ha:0 ≤ a ∧ a ≤ 10) (hb:0 ≤ b ∧ b ≤ 10):ze3 (n,()) a b = some (letsB n a b):=by
 unfold ze3 letsB
 rcases zb40 hn with h | h | h | h | h | h
 ·rw [h]; rfl
 ·rw [h]; rfl
 ·rw [h]
  show Option.bind (zs3 (n,()) a b) _ = _
  unfold zs3
  rw [zh (by omega) (by omega)]
  cases (a != b) <;> rfl
 ·rw [h]
  show Option.bind (zg4 (n,()) a b) _ = _
  unfold zg4
  have e:(a != b && ((a == 0) || (b == 0))) = ((a == 0 && decide (b > 0)) || (decide (a > 0) && b == 0)):=by
   rw [Bool.eq_iff_iff]
   simp only [Bool.and_eq_true,Bool.or_eq_true,bne_iff_ne,beq_iff_eq,decide_eq_true_eq]
   omega
  simp only [show ¬ (4:Int) = 2 by decide,show ¬ (4:Int) = 3 by decide,if_false,if_true]
  rw [← e]
  cases (a != b) <;> cases (a == 0) <;> rfl
 ·rw [h]
  show Option.bind (zj3 (n,()) a b) _ = _
  unfold zj3
  have e:((a != 0 && b == 0) || (a == 0 && b == n.2.2.2.1)) = ((a == 0 && b == n.2.2.2.1) || (decide (a > 0) && b == 0)):=by
   rw [Bool.eq_iff_iff]
   simp only [Bool.and_eq_true,Bool.or_eq_true,bne_iff_ne,beq_iff_eq,decide_eq_true_eq]
   omega
  simp only [show ¬ (5:Int) = 2 by decide,show ¬ (5:Int) = 3 by decide,show ¬ (5:Int) = 4 by decide,if_false,if_true]
  rw [← e]
  cases (a != 0) <;> cases (b == 0) <;> cases (a == 0) <;> rfl
 ·rw [h]
  show Option.bind (zk3 (n,()) a b) _ = _
  unfold zk3
  simp only [show ¬ (6:Int) = 2 by decide,show ¬ (6:Int) = 3 by decide,show ¬ (6:Int) = 4 by decide,show ¬ (6:Int) = 5 by decide,if_false,if_true]
  cases (a == 0) <;> cases (b == n.2.2.2.1) <;> cases (a == n.2.2.2.1) <;> rfl
end Go.Ai.Sx
