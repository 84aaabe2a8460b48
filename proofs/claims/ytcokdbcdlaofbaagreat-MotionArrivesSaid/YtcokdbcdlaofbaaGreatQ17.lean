/- Motion: the law of the drive. -/
import Derived.Test.YtcokdbcdlaofbaaGreatQ16
import Derived.Test.YtcokdbcdlaofbaaGreatQ15
set_option linter.unusedSimpArgs false
set_option linter.unusedVariables false
set_option linter.unusedSectionVars false
namespace Go.Ai.Sx
theorem zr35 {p:Plan} {way:List AMove} {t:Train} {st:Int} {stops:List Int} (hwl:way.length ≤ 8) (hsl:stops.length ≤ 100) (h:stopsB p way t st stops = false):ze2 p way t st stops = some ([],2):=by
 unfold ze2
 rw [zr25 p way t st stops (by omega) (by omega),h]
 rfl
theorem zc32 {l:List Leg} (hl:l.length ≤ 1000):zm2 l (fun x=>zp6 x) = some (l.map (·.1)):=by
  unfold zm2
  have hL:=zb6 (f:=fun s7:List Int × Int =>
cond ((decide (s7.2 < (lenI l)))) (Option.bind (idx l s7.2) fun x10 =>
Option.bind (zp6 x10) fun y12 =>
Option.bind (appO 8 s7.1 ([y12])) fun x13 =>
some (.inl ((x13,(w64 (s7.2 + 1)))))) (some (.inr s7.1))) l (fun i b=>(b,(i:Int))) (fun _ b c=>(.inl (b ++ [c.1]):List Int ⊕ List Int)) (fun b=>b) (fun i b=>b.length = i) [] (s0:=([],0)) rfl (by omega) rfl (fun i h b hb=>by
      refine ⟨?_,fun b' hb'=>?_⟩
      · simp only []
        rw [zr1 h,cond_true,zt9,List.getElem?_eq_getElem h,Option.bind_some]
        show (Option.bind (some l[i].1) _:Option _) = _
        rw [Option.bind_some,zf5 (by simp; omega),Option.bind_some,zc1 (by omega)]
      · cases hb'; simp; omega) (fun b _=>by simp only [zb2,cond_false])
  rw [hL,zv10,Option.bind_some]
  have:∀ (l:List Leg) (b:List Int),l.foldl (fun b c=>b ++ [c.1]) b = b ++ l.map (·.1):=by
    intro l
    induction l with
    | nil=>intro b; simp
    | cons a l ih=>intro b; rw [List.foldl_cons,ih]; simp
  rw [this]; rfl
theorem zd32 {p:Plan} {way:List AMove} {t:Train} {st:Int} {stops:List Int} {gs:List Leg} {e:Int} (h:ze2 p way t st stops = some (gs,e)) (hl:gs.length ≤ 1000):zc8 p way t st stops = some (if e = 0 then (gs.map (·.1),0) else ([],e)):=by
 unfold zc8
 rw [h,Option.bind_some]
 by_cases h0:e = 0
 ·subst h0
  simp only [show ((0:Int) != 0) = false from rfl,cond_false,zc32 hl,Option.bind_some]
  rfl
 ·have hb:(e != 0) = true:=by simpa using h0
  simp only [hb,cond_true]
  rw [if_neg h0]
theorem zs22 (p:Plan) (way:List AMove) (t:Train) (stops:List Int):∃ b,zo4 p way t stops = some b ∧ (b = true → way.length ≤ 8 ∧ stops.length ≤ 4):=by
  unfold zo4
  rw [show ze6 t = some (decide (lenI t.2.2.2.2.2.2.2.2.2.1 ≤ 20)) from rfl]
  cases decide (lenI p.2.1 > 8) with
  | true=>exact ⟨false,rfl,fun h=>by cases h⟩
  | false =>
  cases decide (lenI p.1 > 10) with
  | true=>exact ⟨false,rfl,fun h=>by cases h⟩
  | false =>
  by_cases h1:lenI way > 8
  · rw [decide_eq_true h1]; exact ⟨false,rfl,fun h=>by cases h⟩
  by_cases h2:lenI stops > 4
  · rw [decide_eq_true h2,decide_eq_false h1]; exact ⟨false,rfl,fun h=>by cases h⟩
  rw [decide_eq_false h1,decide_eq_false h2]
  rw [zo1] at h1 h2
  cases decide (lenI t.2.2.2.2.2.2.2.2.2.1 ≤ 20) with
  | false=>exact ⟨false,rfl,fun h=>by cases h⟩
  | true =>
  simp only [cond_false,Option.bind_some,Bool.not_true]
  have hT:Tot (fun _:Unit ⊕ Bool=>True) (iter (σ:=(Int)) (τ:=Unit ⊕ (Bool)) (fun s19 =>
cond ((decide (s19 < (lenI stops)))) (Option.bind (idx stops s19) fun x24 =>
Option.bind (idx stops ((w64 (s19 - 1)))) fun x25 =>
cond ((decide ((w64 (x24 - x25)) > 6000))) (some (.inr ((.inr false)))) (some (.inl ((w64 (s19 + 1)))))) (some (.inr ((.inl (())))))) big 1):=by
    refine Tot.iter (fun s=>∃ k:Nat,s = ((k + 1:Nat):Int) ∧ k ≤ stops.length) _ (fun s=>stops.length - (s.toNat - 1)) ⟨0,rfl,by omega⟩ (by simp only [big]; omega) ?_
    rintro s ⟨k,rfl,hk⟩
    by_cases h:k + 1 < stops.length
    · rw [zr1 h,cond_true,zf1 0 h,Option.bind_some,show w64 (((k + 1:Nat):Int) - 1) = (k:Int) by rw [zh (by omega) (by omega)]; omega,zf1 0 (by omega),Option.bind_some,zc1 (by omega)]
      cases decide (w64 (stops.getD (k + 1) 0 - stops.getD k 0) > 6000) with
      | true=>exact Tot.some trivial
      | false=>exact Tot.some ⟨⟨k + 1,rfl,by omega⟩,by simp only [Int.toNat_natCast]; omega⟩
    · rw [decide_eq_false (by rw [zo1]; omega),cond_false]
      exact Tot.some trivial
  obtain ⟨r,hr,_⟩:=hT
  rw [hr,Option.bind_some]
  cases r with
  | inr b=>exact ⟨b,rfl,fun _=>by omega⟩
  | inl u =>
    rw [zz3,zz24]
    cases decide (t.2.2.2.1 ≥ 200) with
    | false=>exact ⟨_,rfl,fun _=>by omega⟩
    | true =>
    cases decide (t.2.2.2.2.1 ≥ 400) with
    | false=>exact ⟨_,rfl,fun _=>by omega⟩
    | true =>
    cases decide (t.2.2.1 ≥ 300) with
    | false=>exact ⟨_,rfl,fun _=>by omega⟩
    | true=>exact ⟨_,rfl,fun _=>by omega⟩
theorem zt25 {p:Plan} {way:List AMove} {t:Train} {st:Int} {stops:List Int} (R:RunOk p way t st stops):∃ b,zk5 p way t st stops = some b:=by
  have hn:=R.hw.n
  have hm:=R.ht.m
  unfold zk5
  rw [zi6 (d:=0) R.hst.1 R.hst.2,Option.bind_some]
  have hd:divO .i64 t.1 3 = some (t.1 / 3):=zm5 ⟨by omega,by omega⟩ (by omega)
  rw [hd]
  have hT:Tot (fun _:Unit ⊕ Bool=>True) (iter (σ:=(Int)) (τ:=Unit ⊕ (Bool)) (fun s23 =>
cond ((decide (s23 < (lenI way)))) (Option.bind (idx way s23) fun x29 =>
Option.bind (idx p.2.1 x29.1) fun x30 =>
cond ((decide (x30.2.2.2.1 < 300))) (some (.inr ((.inr true)))) (cond ((decide (x30.2.2.2.2.1 > 15))) (some (.inr ((.inr true)))) (cond ((decide (x30.2.2.2.2.1 < (-15)))) (some (.inr ((.inr true)))) (some (.inl ((w64 (s23 + 1)))))))) (some (.inr ((.inl (())))))) big 0):=by
    refine Tot.iter (fun s=>∃ k:Nat,s = (k:Int) ∧ k ≤ way.length) _ (fun s=>way.length - s.toNat) ⟨0,rfl,by omega⟩ (by simp only [big]; omega) ?_
    rintro s ⟨k,rfl,hk⟩
    by_cases h:k < way.length
    · rw [zr1 h,cond_true,zf1 M0 h,Option.bind_some,(zq11 R.hp R.hw h).2.2,Option.bind_some,zc1 (by omega)]
      cases decide ((railAt p way k).2.2.2.1 < 300) with
      | true=>exact Tot.some trivial
      | false =>
      cases decide ((railAt p way k).2.2.2.2.1 > 15) with
      | true=>exact Tot.some trivial
      | false =>
      cases decide ((railAt p way k).2.2.2.2.1 < -15) with
      | true=>exact Tot.some trivial
      | false=>exact Tot.some ⟨⟨k + 1,rfl,by omega⟩,by simp only [Int.toNat_natCast]; omega⟩
    · rw [decide_eq_false (by rw [zo1]; omega),cond_false]
      exact Tot.some trivial
  obtain ⟨r,hr,_⟩:=hT
  rw [hr]
  simp only [Option.bind_some]
  cases decide (t.2.2.2.2.2.2.2.2.2.1.getD st.toNat 0 < 30) with
  | true=>exact ⟨_,rfl⟩
  | false =>
  cases decide (t.2.2.2.2.2.2.1 > 100) with
  | true=>exact ⟨_,rfl⟩
  | false =>
  cases decide (t.2.2.2.2.2.2.2.1 > 100) with
  | true=>exact ⟨_,rfl⟩
  | false =>
  simp only [cond_false,Option.bind_some]
  cases r with
  | inr b=>exact ⟨b,rfl⟩
  | inl u =>
    rw [zz3]
    cases decide (t.2.2.2.1 < t.1 / 3) <;> exact ⟨_,rfl⟩
section
variable {p:Plan} {way:List AMove} {t:Train} {st:Int} {stops:List Int} (R:RunOk p way t st stops)
include R
omit R in
theorem zu25:∀ {r:List Int} {x:MotionState} {gs:List Leg} {z:MotionState},drvL p way t st r x = some (gs,z) → gs.length = r.length
 | [],x,gs,z,h=>by unfold drvL at h; cases h; rfl
 | s :: r,x,gs,z,h=>by
  unfold drvL at h
  cases hl:legN p way t st s 36000 0 (0,0,0,0,0,0,()) 0 0 x with
  | none=>rw [hl] at h; cases h
  | some gy =>
   rw [hl] at h
   simp only [] at h
   cases hd:drvL p way t st r gy.2 with
   | none=>rw [hd] at h; cases h
   | some q =>
    rw [hd] at h
    cases h
    have:=zu25 hd
    simp [this]
theorem zv25 {gs:List Leg} (h:legsS p way t st stops = some gs):gs.length = stops.length - 1:=by
 unfold legsS at h
 cases hd:drvL p way t st (stops.drop 1) (st0 t stops) with
 | none=>rw [hd] at h; cases h
 | some q =>
  rw [hd] at h
  cases h
  rw [zu25 hd,List.length_drop]
end
theorem zs35 {gs:List Leg} (hl:gs.length ≤ 1000):iter (σ:=(Int)) (τ:=Unit ⊕ (Bool)) (fun s60 =>
cond ((decide (s60 < (lenI gs)))) (Option.bind (idx gs s60) fun x73 =>
Option.bind (idx gs s60) fun x74 =>
cond ((x73 != x74)) (some (.inr ((.inr false)))) (Option.bind (idx (gs.map (·.1)) s60) fun x77 =>
Option.bind (idx gs s60) fun x78 =>
cond ((x77 != x78.1)) (some (.inr ((.inr false)))) (some (.inl ((w64 (s60 + 1))))))) (some (.inr ((.inl (())))))) big 0 = some (.inl ()):=by
  have h:=zp12 (f:=fun s60:Int =>
cond ((decide (s60 < (lenI gs)))) (Option.bind (idx gs s60) fun x73 =>
Option.bind (idx gs s60) fun x74 =>
cond ((x73 != x74)) (some (.inr ((.inr false)))) (Option.bind (idx (gs.map (·.1)) s60) fun x77 =>
Option.bind (idx gs s60) fun x78 =>
cond ((x77 != x78.1)) (some (.inr ((.inr false)))) (some (.inl ((w64 (s60 + 1))))))) (some (.inr ((.inl (()):Unit ⊕ Bool))))) (fun k=>(k:Int)) gs.length (fun _=>true) (.inr false) (.inl ()) (s0:=0) rfl (by simp only [big]; omega) (fun i hi=>by
      have e1:idx gs (i:Int) = some gs[i]:=by rw [zt9,List.getElem?_eq_getElem hi]
      have e2:idx (gs.map (·.1)) (i:Int) = some gs[i].1:=by rw [zt9,List.getElem?_map,List.getElem?_eq_getElem hi]; rfl
      simp only [zr1 hi,cond_true,e1,e2,Option.bind_some,bne_self_eq_false,cond_false,if_true]
      rw [zc1 (by omega)]) (by simp only [zb2,cond_false])
  rw [h]
  simp
theorem zq27 (hk:za2 = some true) (p:Plan) (way:List AMove) (t:Train) (st:Int) (stops:List Int):zb5 p way t st stops = some true:=by
 unfold zb5
 obtain ⟨b,hb,hbt⟩:=zs22 p way t stops
 rw [hb,Option.bind_some,hk]
 cases b with
 | false=>rfl
 | true =>
 obtain ⟨hwl,hsl⟩:=hbt rfl
 simp only [Bool.not_true,cond_false]
 rw [zp22 p way t st stops (by omega) (by omega)]
 cases hs:stopsB p way t st stops with
 | false =>
  have hd:=zr35 (p:=p) (t:=t) (st:=st) hwl (by omega) hs
  rw [hd,zd32 hd (by simp)]
  rfl
 | true =>
 have R:=zx16 hs hwl
 have hd:=zy16 R hs
 obtain ⟨sb,hsb⟩:=zt25 R
 have hrd:=zp27 R
 cases hl:legsS p way t st stops with
 | none =>
  rw [hl] at hd hrd
  simp only [] at hd hrd
  rw [hd,zd32 hd (by simp),hsb,hrd]
  cases sb <;> rfl
 | some gs =>
  rw [hl] at hd hrd
  simp only [] at hd hrd
  have hlen:=zv25 R hl
  rw [hd,zd32 hd (by omega),hsb,hrd]
  cases sb with
  | true=>rfl
  | false =>
   simp only [Option.bind_some,Bool.not_true,cond_false,if_true,show ((0:Int) != 0) = false from rfl]
   have e1:(lenI gs != lenI gs) = false:=bne_self_eq_false _
   have e2:(lenI (gs.map (·.1)) != lenI gs) = false:=by rw [zo1,zo1,List.length_map]; exact bne_self_eq_false _
   rw [e1,e2]
   simp only [cond_false,Option.bind_some]
   rw [zs35 (by omega)]
   rfl
end Go.Ai.Sx
