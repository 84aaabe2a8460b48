/- Written by program: walks through functions. -/
import Derived.Test.YtafbcffccnjgfaaM10
namespace Go.Ai.TabYtafbcffccnjgfaa
open Go Go.Ai Go.Ai.Sx Go.Proofs
attribute [local irreducible] SOps
set_option maxRecDepth 100000
set_option maxHeartbeats 4000000
instance i18 {n_0 low_1 high_2}:FI ktab 18 (zi1 n_0 low_1 high_2) [vI n_0,vI low_1,vI high_2] (fun out => [.val rBool (out)]) := ⟨fun out ho => by
 delta zi1 at ho
 refine fn fun _ _ => ?_
 refine run 5 ?_
 obtain ⟨c2,hc2,ho⟩ := bnd ho
 refine wcx c2 [] (fun t => (.normal,fun _ => ([(6,vB (t))],[]))) SEL ?_ fun _ => ?_
 ·exact w hc2
 ·show SRun ..
  cases ho; exact r_ret (zg2 (.inr rfl) (.v rfl .n) (by decide))⟩
instance i32 {p_0}:FI ktab 32 (zr3 p_0) [.val (rPtr zf) p_0] (fun out => [.val rBool (out)]) := ⟨fun out ho => by
 delta zr3 at ho
 refine fn fun _ _ => ?_
 refine run 6 ?_
 obtain ⟨c4,hc4,ho⟩ := bnd ho
 refine wcx c4 [0] (fun t => (.normal,fun _ => ([(36,vB (t))],[]))) SEL ?_ fun _ => ?_
 ·exact w hc4
 ·show SRun ..
  refine wct ho (fun hq8 ho => ?_) fun hq8 ho => ?_
  ·exact w ho
  ·refine run 12 ?_
   obtain ⟨t21,ht21,ho⟩ := bnd ho
   refine wlp ht21 [0,40,41] (fun s g => ([(42,vI (s))],[])) (altX (fun b => (.exit 0,fun g => ([],[]))) (fun b => (.ret,fun g => ([(2,vB (b))],[])))) [] SEL (pk []) NE (fun s14 g15 _ ho => ?_) fun g22 => ?_
   ·refine run 5 ?_
    refine wct ho (fun hq16 ho => ?_) fun hq16 ho => ?_
    ·refine run 5 ?_
     obtain ⟨x17,hx17,ho⟩ := bnd ho
     refine run 2 ?_
     refine xal (zv := .agg [.int .i64 0,.bool false]) (es := [vI (0),vB (false)]) (by kernel_rfl) fun b18 => ?_
     refine run 1 ?_
     refine s_st (zn1 (R := rStableTrack) (a := x17) 0 [4] (zb (zd rfl) (zb (zd rfl) zt rfl) rfl) rfl rfl ⟨rfl,trivial⟩) ?_
     exact w ho
    ·cases ho; exact zf1 (lf [] [])
   ·rcases t21 with b23 | b24
    ·have ho := alt_l ho
     show SRun ..
     refine run 11 ?_
     obtain ⟨t85,ht85,ho⟩ := bnd ho
     refine wlp ht85 [0,54,55] (fun s g => ([(56,vI (s))],[])) (altX (fun b => (.exit 2,fun g => ([],[]))) (fun b => (.ret,fun g => ([(2,vB (b))],[])))) [] SEL (pk []) NE (fun s54 g55 _ ho => ?_) fun g86 => ?_
     ·refine run 5 ?_
      refine wct ho (fun hq56 ho => ?_) fun hq56 ho => ?_
      ·refine run 6 ?_
       obtain ⟨x57,hx57,ho⟩ := bnd ho
       refine run 2 ?_
       refine xal (zv := .agg [.int .i64 0,.int .i64 0,.int .i64 0,.int .i64 0]) (es := [vI (0),vI (0),vI (0),vI (0)]) (by kernel_rfl) fun b58 => ?_
       refine run 2 ?_
       refine s_st (zn1 (R := rStableCar) (a := x57) 0 [6] (zb (zd rfl) (zb (zd rfl) (zb (zd rfl) (zb (zd rfl) zt rfl) rfl) rfl) rfl) rfl rfl ⟨rfl,trivial⟩) ?_
       refine run 5 ?_
       refine xcl ho ?_
       intro y69 hy69 ho
       show SOps ..
       refine run 2 ?_
       refine wbr ho (fun hb70 ho => ?_) fun hb70 ho => ?_
       ·refine run 36 ?_
        refine zw1 (.t rfl) (fun _ => ?_) (fun hq => by cases hq)
        exact w ho
       ·refine run 2 ?_
        refine xcl ho ?_
        intro y72 hy72 ho
        show SOps ..
        refine run 3 ?_
        refine wbr ho (fun hb73 ho => ?_) fun hb73 ho => ?_
        ·refine run 30 ?_
         refine zw1 (.t rfl) (fun _ => ?_) (fun hq => by cases hq)
         exact w ho
        ·refine run 2 ?_
         refine xcl ho ?_
         intro y75 hy75 ho
         show SOps ..
         refine run 3 ?_
         refine wbr ho (fun hb76 ho => ?_) fun hb76 ho => ?_
         ·refine run 24 ?_
          refine zw1 (.t rfl) (fun _ => ?_) (fun hq => by cases hq)
          exact w ho
         ·refine run 2 ?_
          refine xcl ho ?_
          intro y78 hy78 ho
          show SOps ..
          refine run 3 ?_
          refine wbr ho (fun hb79 ho => ?_) fun hb79 ho => ?_
          ·refine run 18 ?_
           refine zw1 (.t rfl) (fun _ => ?_) (fun hq => by cases hq)
           exact w ho
          ·refine run 3 ?_
           refine wbr ho (fun hb81 ho => ?_) fun hb81 ho => ?_
           ·exact w ho
           ·refine run 15 ?_
            refine zw1 (.t rfl) (fun hq => by cases hq) (fun _ => ?_)
            exact w ho
      ·cases ho; exact zf1 (lf [] [])
     ·rcases t85 with b87 | b88
      ·have ho := alt_l ho
       show SRun ..
       refine run 11 ?_
       obtain ⟨t129,ht129,ho⟩ := bnd ho
       refine wlp ht129 [0,105,106] (fun s g => ([(107,vI (s))],[])) (altX (fun b => (.exit 4,fun g => ([],[]))) (fun b => (.ret,fun g => ([(2,vB (b))],[])))) [] SEL (pk []) NE (fun s108 g109 _ ho => ?_) fun g130 => ?_
       ·refine run 5 ?_
        refine wct ho (fun hq110 ho => ?_) fun hq110 ho => ?_
        ·refine run 6 ?_
         obtain ⟨x111,hx111,ho⟩ := bnd ho
         refine run 2 ?_
         refine xal (zv := .agg [.int .i64 0,.int .i64 0]) (es := [vI (0),vI (0)]) (by kernel_rfl) fun b112 => ?_
         refine run 2 ?_
         refine s_st (zn1 (R := rStableLeave) (a := x111) 0 [8] (zb (zd rfl) (zb (zd rfl) zt rfl) rfl) rfl rfl ⟨rfl,trivial⟩) ?_
         refine run 5 ?_
         refine xcl ho ?_
         intro y119 hy119 ho
         show SOps ..
         refine run 2 ?_
         refine wbr ho (fun hb120 ho => ?_) fun hb120 ho => ?_
         ·refine run 24 ?_
          refine zw1 (.t rfl) (fun _ => ?_) (fun hq => by cases hq)
          exact w ho
         ·refine run 2 ?_
          refine xcl ho ?_
          intro y122 hy122 ho
          show SOps ..
          refine run 3 ?_
          refine wbr ho (fun hb123 ho => ?_) fun hb123 ho => ?_
          ·refine run 18 ?_
           refine zw1 (.t rfl) (fun _ => ?_) (fun hq => by cases hq)
           exact w ho
          ·refine run 3 ?_
           refine wbr ho (fun hb125 ho => ?_) fun hb125 ho => ?_
           ·exact w ho
           ·refine run 15 ?_
            refine zw1 (.t rfl) (fun hq => by cases hq) (fun _ => ?_)
            exact w ho
        ·cases ho; exact zf1 (lf [] [])
       ·rcases t129 with b131 | b132
        ·have ho := alt_l ho
         show SRun ..
         exact w ho
        ·have ho := alt_r ho
         cases ho; exact id (zg2 (.inr rfl) (.v rfl .n) (by decide))
      ·have ho := alt_r ho
       cases ho; exact id (zg2 (.inr rfl) (.v rfl .n) (by decide))
    ·have ho := alt_r ho
     cases ho; exact id (zg2 (.inr rfl) (.v rfl .n) (by decide))⟩
instance i33 {n_0}:FI ktab 33 (zs3 n_0) [.val (rPtr zf) n_0] (fun out => [.val rBool (out)]) := ⟨fun out ho => by
 delta zs3 at ho
 refine fn fun _ _ => ?_
 refine run 5 ?_
 obtain ⟨c4,hc4,ho⟩ := bnd ho
 refine wcx c4 [] (fun t => (.normal,fun _ => ([(2,vB (t))],[]))) SEL ?_ fun _ => ?_
 ·exact w hc4
 ·show SRun ..
  cases ho; exact r_ret (zg2 (.inr rfl) (.v rfl .n) (by decide))⟩
instance i39 {s_0}:FI ktab 39 (zk s_0) [.val (rSlice (rInt .i64)) s_0] (fun out => [.row (rInt .i64) out]) := ⟨fun out ho => by
 delta zk at ho
 refine fn fun _ _ => ?_
 refine run 2 ?_
 refine s_st (zm (rInt .i64)) ?_
 refine zx (.n rfl) rfl rfl .nilr ?_
 refine run 5 ?_
 refine zv33 S27 (.n rfl) rfl rfl (.t rfl) (fun he => ?_) ?_
 ·subst he
  have e:out = [] := by simp [appO] at ho; first | exact ho | exact ho.symm
  subst e
  refine run 1 ?_
  refine zw1 (.t rfl) (fun _ => ?_) (fun hq => by cases hq)
  refine run 2 ?_
  refine s_st (zm (rInt .i64)) ?_
  refine zx (.n rfl) rfl rfl .nilr ?_
  refine run 1 ?_
  exact r_ret (zg2 (.inr rfl) (.r 0 rfl rfl .n) (by decide))
 ·refine run 1 ?_
  refine zw1 (.t rfl) (fun hq => by cases hq) (fun _ => ?_)
  refine run 3 ?_
  refine s_bso (R := (rInt .i64)) S27 Y3 (.n rfl) rfl rfl (Elts.n (R := (rInt .i64))) rfl (by decide) ?_
  intro v1
  refine run 1 ?_
  refine xap fun v2 => ?_
  refine run 2 ?_
  exact r_ret (zg2 (.inr rfl) (.r 0 rfl rfl .n) (by decide))⟩
instance i62 {n_0 tracks_1}:FI ktab 62 (zp3 n_0 tracks_1) [.val (rPtr zf) n_0,.val (rSlice (rInt .i64)) tracks_1] (fun out => [.val rBool (out)]) := ⟨fun out ho => by
 delta zp3 at ho
 refine fn fun _ _ => ?_
 refine run 11 ?_
 obtain ⟨x1,hx1,ho⟩ := bnd ho
 refine xmk fun v2 => ?_
 refine run 10 ?_
 obtain ⟨t29,ht29,ho⟩ := bnd ho
 refine wlp ht29 [0,5,14,15] (fun s g => ([(16,vI (s.1))],[(v2,.row (rInt .i64) (s.2))])) (altX (fun b => (.exit 0,fun g => ([],[]))) (fun b => (.ret,fun g => ([(4,vB (b.1))],[])))) [] SEL (pk [0]) NE (fun s19 g20 _ ho => ?_) fun g30 => ?_
 ·refine run 5 ?_
  refine wct ho (fun hq21 ho => ?_) fun hq21 ho => ?_
  ·refine run 6 ?_
   obtain ⟨x22,hx22,ho⟩ := bnd ho
   refine run 6 ?_
   refine zz4 [3] (by kernel_rfl) ?_
   refine run 2 ?_
   obtain ⟨x23,hx23,ho⟩ := bnd ho
   refine run 7 ?_
   obtain ⟨x24,hx24,ho⟩ := bnd ho
   refine run 4 ?_
   obtain ⟨x25,hx25,ho⟩ := bnd ho
   refine run 4 ?_
   refine zz4 [3] (by kernel_rfl) ?_
   refine run 2 ?_
   obtain ⟨x26,hx26,ho⟩ := bnd ho
   refine run 7 ?_
   obtain ⟨x27,hx27,ho⟩ := bnd ho
   refine run 5 ?_
   refine wct ho (fun hq28 ho => ?_) fun hq28 ho => ?_
   ·exact w ho
   ·refine run 4 ?_
    cases ho; exact s_nil (lf [] [0])
  ·cases ho; exact zf1 (lf [] [])
 ·rcases t29 with b31 | b32
  ·have ho := alt_l ho
   show SRun ..
   exact w ho
  ·have ho := alt_r ho
   cases ho; exact id (zg2 (.inr rfl) (.v rfl .n) (by decide))⟩
theorem zr5 {σ τ:Type} {step:σ → ((List Int)) → Option (σ ⊕ τ)} {rec:σ → (List Int) → zi → Option ((Bool) × (σ ⊕ τ))} {yv:AVal} {K:σ ⊕ τ → List AVal → Sx.Obj} (hcb:CbAt ktab yv (fun x => [.val (rSlice (rInt .i64)) (x)]) step K) (hrec:∀ {s_:σ} {tracks_0:(List Int)} {p_1:zi} {out:((Bool) × (σ ⊕ τ))},rec s_ tracks_0 p_1 = some out → ∀ (γ0:List AVal),FunM ktab 61 [.val (rSlice (rInt .i64)) tracks_0,.val (rPtr (rPtr zf)) p_1,.val (rPtr rRaw) yv,.val (rSelfP 61 [.val (rPtr (rPtr zf)) (p_1),.val (rPtr rRaw) (yv)]) ()] [(yv,K (.inl s_) γ0)] [.val rBool (out.1)] (fun γ => [(yv,K (out.2) (untup (gh γ 0)))])) {s_:σ} {tracks_0:(List Int)} {p_1:zi} {out:((Bool) × (σ ⊕ τ))} (ho:zb1 step rec s_ tracks_0 p_1 = some out) (γ0:List AVal):FunM ktab 61 [.val (rSlice (rInt .i64)) tracks_0,.val (rPtr (rPtr zf)) p_1,.val (rPtr rRaw) yv,.val (rSelfP 61 [.val (rPtr (rPtr zf)) (p_1),.val (rPtr rRaw) (yv)]) ()] [(yv,K (.inl s_) γ0)] [.val rBool (out.1)] (fun γ => [(yv,K (out.2) (untup (gh γ 0)))]) := by
 refine ze6 (F := Try.f61) (by rfl) (by rfl) (by rfl) (fun C => ?_)
 delta zb1 at ho
 refine run 9 ?_
 refine xcl ho ?_
 intro y1 hy1 ho
 show SOps ..
 refine run 2 ?_
 refine wct ho (fun hq2 ho => ?_) fun hq2 ho => ?_
 ·refine run 4 ?_
  cases ho; exact r_ret (zy1 [0] [.tuple γ0] (.inr rfl) (.v rfl .n) rfl (by decide))
 ·refine run 13 ?_
  refine wct ho (fun hq3 ho => ?_) fun hq3 ho => ?_
  ·refine run 2 ?_
   refine ze10 UR130 (.n rfl) rfl rfl (.t rfl) ?_
   refine s_st (zm12 (n := 19) rfl) ?_
   refine run 1 ?_
   obtain ⟨y4,hy4,ho⟩ := bnd ho
   refine zx33 [0] [] (fun _ h => by cases h) hcb hy4 rfl rfl rfl (by decide) (.n rfl) rfl rfl rfl (.t rfl) (.c (.t rfl) .n) ?_
   intro v5
   refine run 2 ?_
   cases ho; exact r_ret (zy1 [0] [.tuple v5] (.inr rfl) (.v rfl .n) rfl (by decide))
  ·refine run 12 ?_
   obtain ⟨t34,ht34,ho⟩ := bnd ho
   refine wlp ht34 [0,3,26] (fun s g => ([(27,vI (s.1))],[(yv,K s.2 ((untup (gh g 0))))])) (altX (fun b => (.exit 0,fun g => ([],[(yv,K b ((untup (gh g 0))))]))) (fun b => (.ret,fun g => ([(5,vB (b.1))],[(yv,K b.2 ((untup (gh g 0))))])))) [.tuple γ0] SEL (pk [0]) NE (fun s23 g24 _ ho => ?_) fun g35 => ?_
   ·refine run 5 ?_
    refine wct ho (fun hq25 ho => ?_) fun hq25 ho => ?_
    ·refine run 10 ?_
     refine zc4 rfl UR130 (.n rfl) rfl rfl (.t rfl) ?_
     refine run 1 ?_
     refine xcl ho ?_
     intro y26 hy26 ho v27
     show SOps ..
     refine run 2 ?_
     obtain ⟨x28,hx28,ho⟩ := bnd ho
     refine xap fun v29 => ?_
     refine s_st (zm8 0 [35] rfl rfl ⟨rfl,trivial⟩) ?_
     obtain ⟨s30,hs30,ho⟩ := bnd ho
     refine s_st (zu36 (K := K) 0 (zz33 hs30) rfl rfl) ?_
     obtain ⟨y31,hy31,ho⟩ := bnd ho
     refine zo5 (ps := []) (es := [.val (rSlice (rInt .i64)) (x28)]) (cs := [.val (rPtr (rPtr zf)) (p_1),.val (rPtr rRaw) (yv),.val (rSelfP 61 [.val (rPtr (rPtr zf)) (p_1),.val (rPtr rRaw) (yv)]) ()]) [0] [] (fun _ h => by cases h <;> exact ⟨by kernel_rfl,by kernel_rfl⟩) (hrec hy31 ((untup (gh g24 0)))) rfl rfl (by decide) rfl (.n rfl) rfl rfl rfl (.t rfl) (.c (.t rfl) .n) ?_
     intro g32
     show SOps ..
     refine run 2 ?_
     refine wct ho (fun hq33 ho => ?_) fun hq33 ho => ?_
     ·refine run 4 ?_
      cases ho; exact r_ret (lf [.tuple ((untup (gh g32 0)))] [0])
     ·refine run 4 ?_
      cases ho; exact s_nil (lf [.tuple ((untup (gh g32 0)))] [0])
    ·cases ho; exact zf1 (lf [.tuple ((untup (gh g24 0)))] [0])
   ·rcases t34 with b36 | b37
    ·have ho := alt_l ho
     show SRun ..
     refine run 4 ?_
     cases ho; exact r_ret (zy1 [0] [.tuple ((untup (gh g35 0)))] (.inr rfl) (.v rfl .n) rfl (by decide))
    ·have ho := alt_r ho
     cases ho; exact id (zy1 [0] [.tuple ((untup (gh g35 0)))] (.inr rfl) (.v rfl .n) rfl (by decide))
theorem zn6 {σ τ:Type} {step:σ → ((List Int)) → Option (σ ⊕ τ)} {yv:AVal} {K:σ ⊕ τ → List AVal → Sx.Obj} (hcb:CbAt ktab yv (fun x => [.val (rSlice (rInt .i64)) (x)]) step K) {k:Nat} {s_:σ} {tracks_0:(List Int)} {p_1:zi} {out:((Bool) × (σ ⊕ τ))} (ho:zo1 step k s_ tracks_0 p_1 = some out) (γ0:List AVal):FunM ktab 61 [.val (rSlice (rInt .i64)) tracks_0,.val (rPtr (rPtr zf)) p_1,.val (rPtr rRaw) yv,.val (rSelfP 61 [.val (rPtr (rPtr zf)) (p_1),.val (rPtr rRaw) (yv)]) ()] [(yv,K (.inl s_) γ0)] [.val rBool (out.1)] (fun γ => [(yv,K (out.2) (untup (gh γ 0)))]) := by
 induction k generalizing s_ tracks_0 p_1 out γ0 with
 | zero => cases ho
 | succ k ih => exact zr5 hcb (fun h γ0 => ih h γ0) ho γ0
theorem zy6 {σ τ:Type} {step:σ → ((List Int)) → Option (σ ⊕ τ)} {yv:AVal} {K:σ ⊕ τ → List AVal → Sx.Obj} (hcb:CbAt ktab yv (fun x => [.val (rSlice (rInt .i64)) (x)]) step K) {s_:σ} {p_1:zi} {out:((σ ⊕ τ))} (ho:zs1 step s_ p_1 = some out) (γ0:List AVal):FunM ktab 60 [.raw yv,.val (rPtr (rPtr zf)) p_1] [(yv,K (.inl s_) γ0)] [] (fun γ => [(yv,K (out) (untup (gh γ 0)))]) := by
 refine ze6 (F := Try.f60) (by rfl) (by rfl) (by rfl) (fun C => ?_)
 delta zs1 at ho
 refine run 2 ?_
 refine s_st (zt30 (n := 0) hcb rfl) ?_
 refine run 4 ?_
 refine xal (zv := .nilfunc) (es := [.raw (.nilfunc)]) (by kernel_rfl) fun b1 => ?_
 refine run 3 ?_
 refine zu13 (.n rfl) rfl rfl .n (.c (.t rfl) (.c (.t rfl) (.c (.t rfl) .n))) ?_
 refine za9 0 (UR130).sz rfl (by exact Nat.le_of_ble_eq_true rfl) (.n rfl) rfl rfl (.t rfl) (.t rfl) rfl rfl ?_
 refine s_st (zd9 0 [3] (zn12 (g := 61) (cs := [.val (rPtr (rPtr zf)) (p_1),.val (rPtr rRaw) (yv)]) rfl) rfl rfl ⟨rfl,trivial⟩) ?_
 refine run 2 ?_
 refine zc4 rfl UR130 (.n rfl) rfl rfl (.t rfl) ?_
 obtain ⟨y2,hy2,ho⟩ := bnd ho
 refine zo5 (ps := []) (es := [.val (rSlice (rInt .i64)) ([])]) (cs := [.val (rPtr (rPtr zf)) (p_1),.val (rPtr rRaw) (yv),.val (rSelfP 61 [.val (rPtr (rPtr zf)) (p_1),.val (rPtr rRaw) (yv)]) ()]) [0] [] (fun _ h => by cases h) (zn6 hcb hy2 γ0) rfl rfl (by decide) rfl (.n rfl) rfl rfl rfl (.t rfl) (.c (.nil (R := (rInt .i64))) .n) ?_
 intro g3
 show SOps ..
 cases ho; exact s_nil (zy1 [0] [.tuple ((untup (gh g3 0)))] (.inl rfl) .n rfl (by decide))
theorem za7 {σ τ:Type} {step:σ → ((List Int)) → Option (σ ⊕ τ)} {yv:AVal} {K:σ ⊕ τ → List AVal → Sx.Obj} (hcb:CbAt ktab yv (fun x => [.val (rSlice (rInt .i64)) (x)]) step K) {s_:σ} {p_1:zi} {out:((σ ⊕ τ))} (ho:zs1 step s_ p_1 = some out) (γ0:List AVal):FunM ktab 60 [.raw yv,.val (rPtr (rPtr zf)) p_1] [(yv,K (.inl s_) γ0)] [] (fun γ => [(yv,K (out) γ)]) :=
 za34 (zy6 hcb ho γ0)
instance i34 {n_0}:FI ktab 34 (zx3 n_0) [.val (rPtr zf) n_0] (fun out => [.val (rClo 60 [] [.val (rPtr (rPtr zf)) (out)]) ()]) := ⟨fun out ho => by
 delta zx3 at ho
 refine fn fun _ _ => ?_
 refine run 3 ?_
 refine zw2 rfl (.n rfl) rfl (e := .raw .nilfunc) (fun z fr h s => ⟨_,rfl,by simp only [TE.ok]; rfl⟩) ?_
 refine run 3 ?_
 refine zu13 (.n rfl) rfl rfl .n (.c (.t rfl) .n) ?_
 exact w ho⟩
instance i67 {s_0 v_1}:FI ktab 67 (zf3 s_0 v_1) [.val (rSlice (rInt .i64)) s_0,vI v_1] (fun out => [.val (rInt .i64) (out)]) := ⟨fun out ho => by
 delta zf3 at ho
 refine fn fun _ _ => ?_
 refine run 12 ?_
 obtain ⟨t9,ht9,ho⟩ := bnd ho
 refine wlp ht9 [0,1,7] (fun s g => ([(8,vI (s))],[])) (altX (fun b => (.exit 0,fun g => ([],[]))) (fun b => (.ret,fun g => ([(4,vI (b))],[])))) [] SEL (pk []) NE (fun s4 g5 _ ho => ?_) fun g10 => ?_
 ·exact w ho
 ·rcases t9 with b11 | b12
  ·have ho := alt_l ho
   show SRun ..
   exact w ho
  ·have ho := alt_r ho
   cases ho; exact id (zg2 (.inr rfl) (.v rfl .n) (by decide))⟩
instance i38 {s_0 v_1}:FI ktab 38 (zl s_0 v_1) [.val (rSlice (rInt .i64)) s_0,vI v_1] (fun out => [.val rBool (out)]) := ⟨fun out ho => by
 delta zl at ho
 refine fn fun _ _ => ?_
 exact w ho⟩
instance i64 {n_0 car_1 leave_2}:FI ktab 64 (zt3 n_0 car_1 leave_2) [.val (rPtr zf) n_0,vI car_1,vI leave_2] (fun out => [.val rBool (out)]) := ⟨fun out ho => by
 delta zt3 at ho
 refine fn fun _ _ => ?_
 refine run 11 ?_
 obtain ⟨x1,hx1,ho⟩ := bnd ho
 refine run 7 ?_
 obtain ⟨x2,hx2,ho⟩ := bnd ho
 refine run 2 ?_
 refine xal (zv := .agg [.int .i64 0,.int .i64 0,.int .i64 0,.int .i64 0]) (es := [vI (0),vI (0),vI (0),vI (0)]) (by kernel_rfl) fun b3 => ?_
 refine xal (zv := .agg [.int .i64 0,.int .i64 0]) (es := [vI (0),vI (0)]) (by kernel_rfl) fun b4 => ?_
 refine run 1 ?_
 refine s_st (zn1 (R := rStableCar) (a := x1) 1 [7] (zb (zd rfl) (zb (zd rfl) (zb (zd rfl) (zb (zd rfl) zt rfl) rfl) rfl) rfl) rfl rfl ⟨rfl,trivial⟩) ?_
 refine run 1 ?_
 refine s_st (zn1 (R := rStableLeave) (a := x2) 0 [8] (zb (zd rfl) (zb (zd rfl) zt rfl) rfl) rfl rfl ⟨rfl,trivial⟩) ?_
 refine run 2 ?_
 obtain ⟨c7,hc7,ho⟩ := bnd ho
 refine wcx c7 [] (fun t => (.normal,fun _ => ([(6,vB (t))],[]))) SEL ?_ fun _ => ?_
 ·exact w hc7
 ·show SRun ..
  cases ho; exact r_ret (zg2 (.inr rfl) (.v rfl .n) (by decide))⟩
theorem zz6   {s_0:(List Int)} {out:((List Int))} (ho:zl2 s_0 = some out) (v_0:AVal):FunM ktab 88 [.raw v_0] [(v_0,.row (rInt .i64) (s_0))] [] (fun γ => [(v_0,.row (rInt .i64) (out))]) := by
 refine ze6 (F := Try.f88) (by rfl) (by rfl) (by rfl) (fun C => ?_)
 delta zl2 at ho
 refine run 9 ?_
 obtain ⟨t18,ht18,ho⟩ := bnd ho
 refine wlp ht18 [0] (fun s g => ([(2,vI (s.1)),(3,vI (s.2.1))],[(v_0,.row (rInt .i64) (s.2.2))])) (fun b => (.exit 0,fun g => ([],[(v_0,.row (rInt .i64) (b))]))) [] SEL (pk [0]) NE (fun s11 g12 _ ho => ?_) fun g19 => ?_
 ·refine run 7 ?_
  refine wct ho (fun hq13 ho => ?_) fun hq13 ho => ?_
  ·refine run 3 ?_
   refine zz4 [7,11] (by kernel_rfl) ?_
   refine run 6 ?_
   obtain ⟨x14,hx14,ho⟩ := bnd ho
   refine run 4 ?_
   obtain ⟨x15,hx15,ho⟩ := bnd ho
   refine run 2 ?_
   obtain ⟨x16,hx16,ho⟩ := bnd ho
   refine run 2 ?_
   obtain ⟨x17,hx17,ho⟩ := bnd ho
   refine run 10 ?_
   cases ho; exact s_nil (lf [] [0])
  ·cases ho; exact zf1 (lf [] [0])
 ·cases ho; exact id (zy1 [0] [] (.inl rfl) .n rfl (by decide))
instance i65 {p_0 p_1 p_2 p_3}:FI ktab 65 (zt1 p_0 p_1 p_2 p_3) [.val (rPtr zf) p_0,.val (rSlice (rInt .i64)) p_1,vI p_2,.val (rFn ktab (Int) (Bool) (fun x => [.val (rInt .i64) (x)]) (fun y => [.val rBool (y)])) p_3] (fun out => [.row (rInt .i64) (out)]) := ⟨fun out ho => by
 delta zt1 at ho
 refine fn fun _ _ => ?_
 refine run 2 ?_
 refine s_st (zm (rInt .i64)) ?_
 refine zx (.n rfl) rfl rfl .nilr ?_
 refine run 3 ?_
 refine s_st (zm (rInt .i64)) ?_
 refine zx (.n rfl) rfl rfl .nilr ?_
 refine run 13 ?_
 obtain ⟨t33,ht33,ho⟩ := bnd ho
 refine wlp ht33 [0,1,2,3,14,15] (fun s g => ([(9,.raw ((gh g 0))),(10,vI (s.2.1)),(16,vI (s.2.2))],[((gh g 0),.row (rInt .i64) (s.1))])) (fun b => (.exit 0,fun g => ([(9,.raw ((gh g 0))),(10,vI (b.2))],[((gh g 0),.row (rInt .i64) (b.1))]))) [.nilslice] SEL (pk [0]) NE (fun s16 g17 _ ho => ?_) fun g34 => ?_
 ·refine run 5 ?_
  refine wct ho (fun hq18 ho => ?_) fun hq18 ho => ?_
  ·refine run 6 ?_
   obtain ⟨x19,hx19,ho⟩ := bnd ho
   refine run 11 ?_
   obtain ⟨x23,hx23,ho⟩ := bnd ho
   refine run 4 ?_
   refine wbr ho (fun hb24 ho => ?_) fun hb24 ho => ?_
   ·refine run 5 ?_
    refine zw1 (.t rfl) (fun _ => ?_) (fun hq => by cases hq)
    refine run 4 ?_
    cases ho; exact s_nil (lf [(gh g17 0)] [0])
   ·refine run 2 ?_
    obtain ⟨y26,hy26,ho⟩ := bnd ho
    refine zn4 (X := (Int)) (Y := (Bool)) (f := p_3) (x := s16.2.2) hy26 (.g rfl rfl (gf0 hb24)) rfl rfl rfl (.t rfl) (.c (.t rfl) .n) ?_
    show SOps ..
    refine run 2 ?_
    refine wct ho (fun hq27 ho => ?_) fun hq27 ho => ?_
    ·refine run 4 ?_
     cases ho; exact s_nil (lf [(gh g17 0)] [0])
    ·refine run 8 ?_
     refine wct ho (fun hq28 ho => ?_) fun hq28 ho => ?_
     ·refine run 9 ?_
      obtain ⟨x29,hx29,ho⟩ := bnd ho
      refine xap fun v30 => ?_
      refine run 5 ?_
      cases ho; exact s_nil (lf [v30] [0])
     ·refine run 5 ?_
      obtain ⟨x31,hx31,ho⟩ := bnd ho
      refine xap fun v32 => ?_
      refine run 5 ?_
      cases ho; exact s_nil (lf [v32] [0])
  ·cases ho; exact zf1 (lf [(gh g17 0)] [0])
 ·show SRun ..
  refine run 9 ?_
  obtain ⟨x35,hx35,ho⟩ := bnd ho
  refine run 2 ?_
  obtain ⟨x36,hx36,ho⟩ := bnd ho
  refine run 4 ?_
  refine wct ho (fun hq37 ho => ?_) fun hq37 ho => ?_
  ·refine run 5 ?_
   obtain ⟨x38,hx38,ho⟩ := bnd ho
   refine zv36 0 S27 hx38 (.n rfl) rfl rfl (.t rfl) rfl (.t rfl) (.t rfl) rfl ?_
   intro v39
   exact w ho
  ·refine run 6 ?_
   refine s_st (zm8 0 [9,57] rfl rfl ⟨rfl,rfl,trivial⟩) ?_
   obtain ⟨x40,hx40,ho⟩ := bnd ho
   refine run 1 ?_
   refine xcl ho ?_
   intro y41 hy41 ho v42
   show SOps ..
   refine run 5 ?_
   obtain ⟨y43,hy43,ho⟩ := bnd ho
   refine zi2 [0] [] (fun _ h => by cases h) (zz6 hy43 v42) rfl rfl (by decide) rfl (.n rfl) rfl rfl rfl .f (.c (.t rfl) .n) ?_
   intro g44
   exact w ho⟩
instance i66 {i_0 p_1}:FI ktab 66 (zu i_0 p_1) [vI i_0,.val (rPtr (rInt .i64)) p_1] (fun out => [.val rBool (out)]) := ⟨fun out ho => by
 delta zu at ho
 refine fn fun _ _ => ?_
 exact w ho⟩
theorem zg6  {rec:Int → Int → (List (Int × Int)) → zi → (List Int) → (List Int) → Option ((Int) × (List (Int × Int)))}  (hrec:∀ {p_0:Int} {p_1:Int} {p_2:(List (Int × Int))} {p_3:zi} {p_4:(List Int)} {p_5:(List Int)} {out:((Int) × (List (Int × Int)))},rec p_0 p_1 p_2 p_3 p_4 p_5 = some out → ∀ (m_2:Nat),FunM ktab 63 [.val (rInt .i64) p_0,.val (rInt .i64) p_1,.val (rPtr rRaw) ((.map m_2)),.val (rPtr (rPtr zf)) p_3,.val (rPtr (rSlice (rInt .i64))) p_4,.val (rPtr (rSlice (rInt .i64))) p_5,.val (rSelfP 63 [.val (rPtr rRaw) ((.map m_2)),.val (rPtr (rPtr zf)) (p_3),.val (rPtr (rSlice (rInt .i64))) (p_4),.val (rPtr (rSlice (rInt .i64))) (p_5)]) ()] [(.map m_2,.mp (rInt .i64) (rInt .i64) (p_2))] [.val (rInt .i64) (out.1)] (fun γ => [(.map m_2,.mp (rInt .i64) (rInt .i64) (out.2))])) {p_0:Int} {p_1:Int} {p_2:(List (Int × Int))} {p_3:zi} {p_4:(List Int)} {p_5:(List Int)} {out:((Int) × (List (Int × Int)))} (ho:zm1 rec p_0 p_1 p_2 p_3 p_4 p_5 = some out) (m_2:Nat):FunM ktab 63 [.val (rInt .i64) p_0,.val (rInt .i64) p_1,.val (rPtr rRaw) ((.map m_2)),.val (rPtr (rPtr zf)) p_3,.val (rPtr (rSlice (rInt .i64))) p_4,.val (rPtr (rSlice (rInt .i64))) p_5,.val (rSelfP 63 [.val (rPtr rRaw) ((.map m_2)),.val (rPtr (rPtr zf)) (p_3),.val (rPtr (rSlice (rInt .i64))) (p_4),.val (rPtr (rSlice (rInt .i64))) (p_5)]) ()] [(.map m_2,.mp (rInt .i64) (rInt .i64) (p_2))] [.val (rInt .i64) (out.1)] (fun γ => [(.map m_2,.mp (rInt .i64) (rInt .i64) (out.2))]) := by
 refine ze6 (F := Try.f63) (by rfl) (by rfl) (by rfl) (fun C => ?_)
 delta zm1 at ho
 refine run 8 ?_
 refine ze10 UR131 (.n rfl) rfl rfl (.t rfl) ?_
 refine s_st (zm12 (n := 15) rfl) ?_
 refine run 1 ?_
 refine zv30 0 rfl MP131 Z3 rfl (.n rfl) rfl rfl (.t rfl) (.t rfl) ?_
 refine run 10 ?_
 refine wct ho (fun hq1 ho => ?_) fun hq1 ho => ?_
 ·refine run 5 ?_
  cases ho; exact r_ret (zy1 [0] [] (.inr rfl) (.v rfl .n) rfl (by decide))
 ·refine run 16 ?_
  obtain ⟨t154,ht154,ho⟩ := bnd ho
  refine wlp ht154 [1,2,3,4,5,6,7,26] (fun s g => ([(12,vI (s.1)),(27,vI (s.2.1))],[(.map m_2,.mp (rInt .i64) (rInt .i64) (s.2.2))])) (fun b => (.exit 0,fun g => ([(12,vI (b.1))],[(.map m_2,.mp (rInt .i64) (rInt .i64) (b.2))]))) [] SEL (pk [0]) NE (fun s102 g103 _ ho => ?_) fun g155 => ?_
  ·refine run 5 ?_
   refine wct ho (fun hq104 ho => ?_) fun hq104 ho => ?_
   ·refine run 13 ?_
    obtain ⟨x116,hx116,ho⟩ := bnd ho
    refine run 4 ?_
    refine wbr ho (fun hb117 ho => ?_) fun hb117 ho => ?_
    ·refine run 32 ?_
     refine zw1 (.t rfl) (fun _ => ?_) (fun hq => by cases hq)
     refine run 4 ?_
     cases ho; exact s_nil (lf [] [0])
    ·refine run 3 ?_
     refine xcl ho ?_
     intro y119 hy119 ho
     show SOps ..
     refine run 3 ?_
     refine wbr ho (fun hb120 ho => ?_) fun hb120 ho => ?_
     ·refine run 25 ?_
      refine zw1 (.t rfl) (fun _ => ?_) (fun hq => by cases hq)
      refine run 4 ?_
      cases ho; exact s_nil (lf [] [0])
     ·refine run 5 ?_
      refine wbr ho (fun hb122 ho => ?_) fun hb122 ho => ?_
      ·refine run 2 ?_
       obtain ⟨x123,hx123,ho⟩ := bnd ho
       refine run 7 ?_
       refine wbr ho (fun hb124 ho => ?_) fun hb124 ho => ?_
       ·refine run 11 ?_
        refine zw1 (.t rfl) (fun _ => ?_) (fun hq => by cases hq)
        refine run 4 ?_
        cases ho; exact s_nil (lf [] [0])
       ·refine run 5 ?_
        refine wbr ho (fun hb126 ho => ?_) fun hb126 ho => ?_
        ·refine run 2 ?_
         refine xcl ho ?_
         intro y127 hy127 ho
         show SOps ..
         refine run 3 ?_
         refine wct ho (fun hq128 ho => ?_) fun hq128 ho => ?_
         ·refine run 4 ?_
          cases ho; exact s_nil (lf [] [0])
         ·refine run 6 ?_
          refine zj6 (X := (Int)) (Y := (Bool)) (fun x => [.val (rInt .i64) (x)]) (fun y => [.val rBool (y)]) (f := (fun x => zu x p_0)) (fun x y hf => i66.ok _ hf) rfl (.n rfl) rfl rfl .n (.c (.t rfl) .n) ?_
          refine xcl ho ?_
          intro y129 hy129 ho v130
          show SOps ..
          refine run 1 ?_
          refine zc4 rfl UR78 (.n rfl) rfl rfl (.t rfl) ?_
          refine run 2 ?_
          obtain ⟨x131,hx131,ho⟩ := bnd ho
          refine run 4 ?_
          obtain ⟨y132,hy132,ho⟩ := bnd ho
          refine zo5 (ps := []) (es := [vI ((bOr .i64 p_0 x131)),vI ((w64 (p_1 + 1)))]) (cs := [.val (rPtr rRaw) ((.map m_2)),.val (rPtr (rPtr zf)) (p_3),.val (rPtr (rSlice (rInt .i64))) (p_4),.val (rPtr (rSlice (rInt .i64))) (p_5),.val (rSelfP 63 [.val (rPtr rRaw) ((.map m_2)),.val (rPtr (rPtr zf)) (p_3),.val (rPtr (rSlice (rInt .i64))) (p_4),.val (rPtr (rSlice (rInt .i64))) (p_5)]) ()]) [1] [0] (fun _ h => by cases h <;> exact ⟨by kernel_rfl,by kernel_rfl⟩) (hrec hy132 m_2) rfl rfl (by decide) rfl (.n rfl) rfl rfl rfl (.t rfl) (.c (.t rfl) (.c (.t rfl) .n)) ?_
          intro g133
          show SOps ..
          refine run 7 ?_
          cases ho; exact s_nil (lf [] [0])
        ·refine run 6 ?_
         refine zw1 (.t rfl) (fun hq => by cases hq) (fun _ => ?_)
         refine run 6 ?_
         refine zj6 (X := (Int)) (Y := (Bool)) (fun x => [.val (rInt .i64) (x)]) (fun y => [.val rBool (y)]) (f := (fun x => zu x p_0)) (fun x y hf => i66.ok _ hf) rfl (.n rfl) rfl rfl .n (.c (.t rfl) .n) ?_
         refine xcl ho ?_
         intro y135 hy135 ho v136
         show SOps ..
         refine run 1 ?_
         refine zc4 rfl UR78 (.n rfl) rfl rfl (.t rfl) ?_
         refine run 2 ?_
         obtain ⟨x137,hx137,ho⟩ := bnd ho
         refine run 4 ?_
         obtain ⟨y138,hy138,ho⟩ := bnd ho
         refine zo5 (ps := []) (es := [vI ((bOr .i64 p_0 x137)),vI ((w64 (p_1 + 1)))]) (cs := [.val (rPtr rRaw) ((.map m_2)),.val (rPtr (rPtr zf)) (p_3),.val (rPtr (rSlice (rInt .i64))) (p_4),.val (rPtr (rSlice (rInt .i64))) (p_5),.val (rSelfP 63 [.val (rPtr rRaw) ((.map m_2)),.val (rPtr (rPtr zf)) (p_3),.val (rPtr (rSlice (rInt .i64))) (p_4),.val (rPtr (rSlice (rInt .i64))) (p_5)]) ()]) [1] [0] (fun _ h => by cases h <;> exact ⟨by kernel_rfl,by kernel_rfl⟩) (hrec hy138 m_2) rfl rfl (by decide) rfl (.n rfl) rfl rfl rfl (.t rfl) (.c (.t rfl) (.c (.t rfl) .n)) ?_
         intro g139
         show SOps ..
         refine run 7 ?_
         cases ho; exact s_nil (lf [] [0])
      ·refine run 14 ?_
       refine wbr ho (fun hb140 ho => ?_) fun hb140 ho => ?_
       ·refine run 2 ?_
        refine xcl ho ?_
        intro y141 hy141 ho
        show SOps ..
        refine run 3 ?_
        refine wct ho (fun hq142 ho => ?_) fun hq142 ho => ?_
        ·refine run 4 ?_
         cases ho; exact s_nil (lf [] [0])
        ·refine run 6 ?_
         refine zj6 (X := (Int)) (Y := (Bool)) (fun x => [.val (rInt .i64) (x)]) (fun y => [.val rBool (y)]) (f := (fun x => zu x p_0)) (fun x y hf => i66.ok _ hf) rfl (.n rfl) rfl rfl .n (.c (.t rfl) .n) ?_
         refine xcl ho ?_
         intro y143 hy143 ho v144
         show SOps ..
         refine run 1 ?_
         refine zc4 rfl UR78 (.n rfl) rfl rfl (.t rfl) ?_
         refine run 2 ?_
         obtain ⟨x145,hx145,ho⟩ := bnd ho
         refine run 4 ?_
         obtain ⟨y146,hy146,ho⟩ := bnd ho
         refine zo5 (ps := []) (es := [vI ((bOr .i64 p_0 x145)),vI ((w64 (p_1 + 1)))]) (cs := [.val (rPtr rRaw) ((.map m_2)),.val (rPtr (rPtr zf)) (p_3),.val (rPtr (rSlice (rInt .i64))) (p_4),.val (rPtr (rSlice (rInt .i64))) (p_5),.val (rSelfP 63 [.val (rPtr rRaw) ((.map m_2)),.val (rPtr (rPtr zf)) (p_3),.val (rPtr (rSlice (rInt .i64))) (p_4),.val (rPtr (rSlice (rInt .i64))) (p_5)]) ()]) [1] [0] (fun _ h => by cases h <;> exact ⟨by kernel_rfl,by kernel_rfl⟩) (hrec hy146 m_2) rfl rfl (by decide) rfl (.n rfl) rfl rfl rfl (.t rfl) (.c (.t rfl) (.c (.t rfl) .n)) ?_
         intro g147
         show SOps ..
         refine run 7 ?_
         cases ho; exact s_nil (lf [] [0])
       ·refine run 6 ?_
        refine zw1 (.t rfl) (fun hq => by cases hq) (fun _ => ?_)
        refine run 6 ?_
        refine zj6 (X := (Int)) (Y := (Bool)) (fun x => [.val (rInt .i64) (x)]) (fun y => [.val rBool (y)]) (f := (fun x => zu x p_0)) (fun x y hf => i66.ok _ hf) rfl (.n rfl) rfl rfl .n (.c (.t rfl) .n) ?_
        refine xcl ho ?_
        intro y149 hy149 ho v150
        show SOps ..
        refine run 1 ?_
        refine zc4 rfl UR78 (.n rfl) rfl rfl (.t rfl) ?_
        refine run 2 ?_
        obtain ⟨x151,hx151,ho⟩ := bnd ho
        refine run 4 ?_
        obtain ⟨y152,hy152,ho⟩ := bnd ho
        refine zo5 (ps := []) (es := [vI ((bOr .i64 p_0 x151)),vI ((w64 (p_1 + 1)))]) (cs := [.val (rPtr rRaw) ((.map m_2)),.val (rPtr (rPtr zf)) (p_3),.val (rPtr (rSlice (rInt .i64))) (p_4),.val (rPtr (rSlice (rInt .i64))) (p_5),.val (rSelfP 63 [.val (rPtr rRaw) ((.map m_2)),.val (rPtr (rPtr zf)) (p_3),.val (rPtr (rSlice (rInt .i64))) (p_4),.val (rPtr (rSlice (rInt .i64))) (p_5)]) ()]) [1] [0] (fun _ h => by cases h <;> exact ⟨by kernel_rfl,by kernel_rfl⟩) (hrec hy152 m_2) rfl rfl (by decide) rfl (.n rfl) rfl rfl rfl (.t rfl) (.c (.t rfl) (.c (.t rfl) .n)) ?_
        intro g153
        show SOps ..
        refine run 7 ?_
        cases ho; exact s_nil (lf [] [0])
   ·cases ho; exact zf1 (lf [] [0])
  ·show SRun ..
   refine run 2 ?_
   refine ze10 UR131 (.n rfl) rfl rfl (.t rfl) ?_
   refine s_st (zm12 (n := 85) rfl) ?_
   refine run 3 ?_
   refine zk22 0 MP131 (.inl rfl) rfl (.n rfl) rfl (.t rfl) (.t rfl) (.t rfl) rfl ?_
   refine run 3 ?_
   refine ze10 UR131 (.n rfl) rfl rfl (.t rfl) ?_
   refine s_st (zm12 (n := 89) rfl) ?_
   refine run 1 ?_
   refine zw36 0 rfl MP131 Z3 rfl (.n rfl) rfl rfl (.t rfl) (.t rfl) ?_
   refine run 2 ?_
   cases ho; exact r_ret (zy1 [0] [] (.inr rfl) (.v rfl .n) rfl (by decide))
theorem zq7   {k:Nat} {p_0:Int} {p_1:Int} {p_2:(List (Int × Int))} {p_3:zi} {p_4:(List Int)} {p_5:(List Int)} {out:((Int) × (List (Int × Int)))} (ho:zz1 k p_0 p_1 p_2 p_3 p_4 p_5 = some out) (m_2:Nat):FunM ktab 63 [.val (rInt .i64) p_0,.val (rInt .i64) p_1,.val (rPtr rRaw) ((.map m_2)),.val (rPtr (rPtr zf)) p_3,.val (rPtr (rSlice (rInt .i64))) p_4,.val (rPtr (rSlice (rInt .i64))) p_5,.val (rSelfP 63 [.val (rPtr rRaw) ((.map m_2)),.val (rPtr (rPtr zf)) (p_3),.val (rPtr (rSlice (rInt .i64))) (p_4),.val (rPtr (rSlice (rInt .i64))) (p_5)]) ()] [(.map m_2,.mp (rInt .i64) (rInt .i64) (p_2))] [.val (rInt .i64) (out.1)] (fun γ => [(.map m_2,.mp (rInt .i64) (rInt .i64) (out.2))]) := by
 induction k generalizing p_0 p_1 p_2 p_3 p_4 p_5 out m_2 with
 | zero => cases ho
 | succ k ih => exact zg6 (fun h m_2 => ih h m_2) ho m_2
instance i35 {n_0 tracks_1 fixed_2}:FI ktab 35 (zz n_0 tracks_1 fixed_2) [.val (rPtr zf) n_0,.val (rSlice (rInt .i64)) tracks_1,.val (rSlice (rInt .i64)) fixed_2] (fun out => [.val (rInt .i64) (out)]) := ⟨fun out ho => by
 delta zz at ho
 refine fn fun _ _ => ?_
 refine run 9 ?_
 refine zc34 (rInt .i64) MP131 rfl (.n rfl) rfl rfl ?_
 intro b1
 refine run 5 ?_
 obtain ⟨x2,hx2,ho⟩ := bnd ho
 refine run 2 ?_
 refine zk22 0 MP131 (.inr rfl) rfl (.n rfl) rfl (.t rfl) (.t rfl) (.i (by decide) (by decide)) rfl ?_
 refine run 1 ?_
 refine xal (zv := .nilmap) (es := [.raw (.nilmap)]) (by kernel_rfl) fun b3 => ?_
 refine s_st (zr26 (n := 17) rfl) ?_
 refine za9 0 (UR131).sz rfl (by exact Nat.le_of_ble_eq_true rfl) (.n rfl) rfl rfl (.t rfl) (.t rfl) rfl rfl ?_
 refine s_st (zn1 (R := rRaw) (a := (.map b1)) 0 [7] (zd rfl) rfl rfl ⟨rfl,trivial⟩) ?_
 refine run 3 ?_
 refine xal (zv := .nilfunc) (es := [.raw (.nilfunc)]) (by kernel_rfl) fun b4 => ?_
 refine run 3 ?_
 refine zu13 (.n rfl) rfl rfl .n (.c (.t rfl) (.c (.t rfl) (.c (.t rfl) (.c (.t rfl) (.c (.t rfl) .n))))) ?_
 refine za9 0 (UR78).sz rfl (by exact Nat.le_of_ble_eq_true rfl) (.n rfl) rfl rfl (.t rfl) (.t rfl) rfl rfl ?_
 refine s_st (zd9 0 [8] (zn12 (g := 63) (cs := [.val (rPtr rRaw) ((.map b1)),.val (rPtr (rPtr zf)) (n_0),.val (rPtr (rSlice (rInt .i64))) (fixed_2),.val (rPtr (rSlice (rInt .i64))) (tracks_1)]) rfl) rfl rfl ⟨rfl,trivial⟩) ?_
 refine run 3 ?_
 refine zc4 rfl UR78 (.n rfl) rfl rfl (.t rfl) ?_
 obtain ⟨y5,hy5,ho⟩ := bnd ho
 refine zo5 (ps := []) (es := [vI (0),vI (0)]) (cs := [.val (rPtr rRaw) ((.map b1)),.val (rPtr (rPtr zf)) (n_0),.val (rPtr (rSlice (rInt .i64))) (fixed_2),.val (rPtr (rSlice (rInt .i64))) (tracks_1),.val (rSelfP 63 [.val (rPtr rRaw) ((.map b1)),.val (rPtr (rPtr zf)) (n_0),.val (rPtr (rSlice (rInt .i64))) (fixed_2),.val (rPtr (rSlice (rInt .i64))) (tracks_1)]) ()]) [0] [] (fun _ h => by cases h) (zq7 hy5 b1) rfl rfl (by decide) rfl (.n rfl) rfl rfl rfl (.t rfl) (.c (.i (by decide) (by decide)) (.c (.i (by decide) (by decide)) .n)) ?_
 intro g6
 exact w ho⟩
instance i36 {l_0 better_1}:FI ktab 36 (zc1 l_0 better_1) [.val (rSlice rStablePlanN1) l_0,.val (rFn ktab (StablePlanN1 × StablePlanN1) (Bool) (fun x => [.val rStablePlanN1 (x.1),.val rStablePlanN1 (x.2)]) (fun y => [.val rBool (y)])) better_1] (fun out => [.val rStablePlanN1 (out)]) := ⟨fun out ho => by
 delta zc1 at ho
 refine fn fun _ _ => ?_
 refine run 2 ?_
 refine xal (zv := .agg [.nilslice,.nilslice,.int .i64 0]) (es := [.val (rSlice (rInt .i64)) ([]),.val rNil (()),vI (0)]) (by kernel_rfl) fun b1 => ?_
 refine run 4 ?_
 obtain ⟨x2,hx2,ho⟩ := bnd ho
 refine s_idx Sq177 hx2 (.n rfl) rfl rfl (.t rfl) (.i (by decide) (by decide)) ?_
 refine ze10 Uq176 (.n rfl) rfl rfl (.t rfl) ?_
 refine xal (zv := .agg [.nilslice,.nilslice,.int .i64 0]) (es := [.val (rSlice (rInt .i64)) ([]),.val rNil (()),vI (0)]) (by kernel_rfl) fun b3 => ?_
 refine zu6 0 Uq176 rfl (zb (zd rfl) (zb (zd rfl) (zb (zd rfl) zt rfl) rfl) rfl) (by rfl) (.n rfl) rfl rfl (.t rfl) (.t rfl) (by rfl) ?_
 refine run 5 ?_
 obtain ⟨x4,hx4,ho⟩ := bnd ho
 refine s_slO Sq177 hx4 (.n rfl) rfl rfl (.t rfl) (.s (.i (by decide) (by decide))) .n ?_
 refine s_len Sq177 (.n rfl) rfl rfl rfl rfl rfl (.t rfl) ?_
 refine run 3 ?_
 obtain ⟨t22,ht22,ho⟩ := bnd ho
 refine wlp ht22 [1,4,5,12,13] (fun s g => ([(14,vI (s.1))],[(.ptr b3 0,.box [.val (rSlice (rInt .i64)) (s.2.1),.val rNil (s.2.2.1),vI (s.2.2.2)]),(.ptr b1 0,.box [.val (rSlice (rInt .i64)) ([]),.val rNil (()),vI (0)])])) (fun b => (.exit 0,fun g => ([],[(.ptr b3 0,.box [.val (rSlice (rInt .i64)) (b.1),.val rNil (b.2.1),vI (b.2.2)]),(.ptr b1 0,.box [.val (rSlice (rInt .i64)) ([]),.val rNil (()),vI (0)])]))) [] SEL (pk [0,1]) NE (fun s15 g16 _ ho => ?_) fun g23 => ?_
 ·refine run 5 ?_
  refine wct ho (fun hq17 ho => ?_) fun hq17 ho => ?_
  ·refine run 5 ?_
   obtain ⟨x18,hx18,ho⟩ := bnd ho
   refine s_idx Sq177 hx18 (.n rfl) rfl rfl (.t rfl) (.t rfl) ?_
   refine ze10 Uq176 (.n rfl) rfl rfl (.t rfl) ?_
   refine xal (zv := .agg [.nilslice,.nilslice,.int .i64 0]) (es := [.val (rSlice (rInt .i64)) ([]),.val rNil (()),vI (0)]) (by kernel_rfl) fun b19 => ?_
   refine zu6 0 Uq176 rfl (zb (zd rfl) (zb (zd rfl) (zb (zd rfl) zt rfl) rfl) rfl) (by rfl) (.n rfl) rfl rfl (.t rfl) (.t rfl) (by rfl) ?_
   refine s_st (zn1 (R := rStablePlanN1) (a := x18) 0 [7] (zb (zd rfl) (zb (zd rfl) (zb (zd rfl) zt rfl) rfl) rfl) rfl rfl ⟨rfl,trivial⟩) ?_
   refine run 4 ?_
   refine ze10 Uq176 (.n rfl) rfl rfl (.t rfl) ?_
   refine zh10 (R := rStablePlanN1) (a := (s15.2.1,s15.2.2.1,s15.2.2.2,())) 0 (fun _ h => by cases h <;> rfl) Uq176 (zb (zd rfl) (zb (zd rfl) (zb (zd rfl) zt rfl) rfl) rfl) (.n rfl) rfl rfl (.t rfl) rfl ?_
   obtain ⟨y20,hy20,ho⟩ := bnd ho
   refine zn4 (X := (StablePlanN1 × StablePlanN1)) (Y := (Bool)) (f := better_1) (x := (x18,(s15.2.1,s15.2.2.1,s15.2.2.2,()))) hy20 (.n rfl) rfl rfl rfl (.t rfl) (.c (.t rfl) (.c (.t rfl) .n)) ?_
   show SOps ..
   refine run 1 ?_
   refine wct ho (fun hq21 ho => ?_) fun hq21 ho => ?_
   ·refine run 1 ?_
    refine ze10 Uq176 (.n rfl) rfl rfl (.t rfl) ?_
    refine zu6 0 Uq176 rfl (zb (zd rfl) (zb (zd rfl) (zb (zd rfl) zt rfl) rfl) rfl) (by rfl) (.n rfl) rfl rfl (.t rfl) (.t rfl) (by rfl) ?_
    refine run 4 ?_
    cases ho; exact s_nil (lf [] [0,1])
   ·refine run 4 ?_
    cases ho; exact s_nil (lf [] [0,1])
  ·cases ho; exact zf1 (lf [] [0,1])
 ·show SRun ..
  refine run 2 ?_
  refine zh10 (R := rStablePlanN1) (a := (t22.1,t22.2.1,t22.2.2,())) 0 (fun _ h => by cases h <;> rfl) Uq176 (zb (zd rfl) (zb (zd rfl) (zb (zd rfl) zt rfl) rfl) rfl) (.n rfl) rfl rfl (.t rfl) rfl ?_
  refine zu6 1 Uq176 rfl (zb (zd rfl) (zb (zd rfl) (zb (zd rfl) zt rfl) rfl) rfl) (by rfl) (.n rfl) rfl rfl (.t rfl) (.t rfl) (by rfl) ?_
  refine run 1 ?_
  cases ho; exact r_ret (zg2 (.inr rfl) (.b 1 Uq176 (zb (zd rfl) (zb (zd rfl) (zb (zd rfl) zt rfl) rfl) rfl) rfl rfl .n) (by decide))⟩
instance i37 {a_0 b_1}:FI ktab 37 (zj3 a_0 b_1) [.val rStablePlanN1 a_0,.val rStablePlanN1 b_1] (fun out => [.val rBool (out)]) := ⟨fun out ho => by
 delta zj3 at ho
 refine fn fun _ _ => ?_
 refine run 8 ?_
 refine s_fa zl21 zw5 (by decide) (.n rfl) rfl rfl (.t rfl) ?_
 refine run 1 ?_
 refine s_fa zl21 zw5 (by decide) (.n rfl) rfl rfl (.t rfl) ?_
 exact w ho⟩
instance i13 {p_0 p_1 p_2}:FI ktab 13 (ze4 p_0 p_1 p_2) [.val (rSlice rStableTrack) p_0,.val (rSlice rStableCar) p_1,.val (rSlice rStableLeave) p_2] (fun out => [.val rStablePlan (out.1),.val (rInt .i64) (out.2)]) := ⟨fun out ho => by
 delta ze4 at ho
 refine fn fun _ _ => ?_
 refine run 2 ?_
 refine xal (zv := .agg [.nilslice,.nilslice,.int .i64 0]) (es := [.val (rSlice (rInt .i64)) ([]),.val (rSlice (rInt .i64)) ([]),vI (0)]) (by kernel_rfl) fun b1 => ?_
 refine run 2 ?_
 refine zg26 (by exact zj22) ?_
 refine run 7 ?_
 refine xal (zv := .nilptr) (es := [.raw (.nilptr)]) (by kernel_rfl) fun b2 => ?_
 refine run 1 ?_
 refine s_st (zn1 (R := (rPtr zf)) (a := ((p_0,p_1,p_2,()):zi)) 0 [8] (zd rfl) rfl rfl ⟨rfl,trivial⟩) ?_
 refine run 5 ?_
 refine xcl ho ?_
 intro y3 hy3 ho
 show SOps ..
 refine run 2 ?_
 refine wct ho (fun hq4 ho => ?_) fun hq4 ho => ?_
 ·refine run 6 ?_
  cases ho; exact r_ret (zg2 (.inr rfl) (.b 0 U51 (zb (zd rfl) (zb (zd rfl) (zb (zd rfl) zt rfl) rfl) rfl) rfl rfl (.v rfl .n)) (by decide))
 ·refine run 5 ?_
  refine xcl ho ?_
  intro y5 hy5 ho
  show SOps ..
  refine run 2 ?_
  refine wct ho (fun hq6 ho => ?_) fun hq6 ho => ?_
  ·refine run 6 ?_
   cases ho; exact r_ret (zg2 (.inr rfl) (.b 0 U51 (zb (zd rfl) (zb (zd rfl) (zb (zd rfl) zt rfl) rfl) rfl) rfl rfl (.v rfl .n)) (by decide))
  ·refine run 3 ?_
   refine zj21 (R := rStablePlanN1) Bq176 (.n rfl) rfl rfl rfl (.z (fun _ => znil) (.z (fun _ => znilN) (.p (.i (by decide) (by decide)) rfl (.n rfl)))) ?_
   refine s_bso (R := rStablePlanN1) Sq177 Yq176 (.n rfl) rfl rfl (.c (.t rfl) .n) rfl (by decide) ?_
   intro v7
   refine s_st (zm rStablePlanN1) ?_
   refine xal (zv := .nilslice) (es := [.raw .nilslice]) (by kernel_rfl) fun b8 => ?_
   refine zw3 0 2 (Uq177).sz rfl rfl (by exact Nat.le_of_ble_eq_true rfl) (.n rfl) rfl rfl (.t rfl) (.t rfl) (by rfl) ?_
   refine run 7 ?_
   refine xcl ho ?_
   intro y9 hy9 ho
   show SOps ..
   refine run 2 ?_
   obtain ⟨t34,ht34,ho⟩ := bnd ho
   refine zy33 (σ := ((List StablePlanN1))) (τ := ((List StablePlanN1))) (X := ((List Int))) (ins := (fun x => [.val (rSlice (rInt .i64)) (x)])) (altO (fun s g => [(.ptr b8 0,.box [.raw ((gh g 0))]),(.ptr b1 0,.box [.val (rSlice (rInt .i64)) ([]),.val (rSlice (rInt .i64)) ([]),vI (0)]),((gh g 0),.row rStablePlanN1 (s))]) (fun t g => [(.ptr b8 0,.box [.raw ((gh g 0))]),(.ptr b1 0,.box [.val (rSlice (rInt .i64)) ([]),.val (rSlice (rInt .i64)) ([]),vI (0)]),((gh g 0),.row rStablePlanN1 (t))])) (fun _ => some 0) (s0 := [(([],(),1048576,()):StablePlanN1)]) (r := t34) [v7] [0,3,2] [] rfl (.t rfl) rfl rfl (by decide) (fun _ => rfl) (fun yv K hcb γ => za7 hcb ht34 γ) ?_ ?_
   ·clear ho ht34
    intro s25 g26 x10 r35 ho C
    refine run 2 ?_
    refine s_nil (fun fr h s => And.intro rfl (Exists.intro _ (Exists.intro _ (And.intro s (fun C => ?_)))))
    refine run 2 ?_
    refine zz4 [0,1000009] (by kernel_rfl) ?_
    refine zd11 0 (fun _ h => by cases h <;> rfl) (Uq177).agg rfl (.n rfl) rfl rfl (.t rfl) rfl ?_
    refine run 3 ?_
    obtain ⟨y27,hy27,ho⟩ := bnd ho
    refine ze11 (i35.ok _ hy27) (.v zv17 .n) rfl (.n rfl) rfl rfl rfl .f (.c (.o (.t rfl)) (.c (.o (.t rfl)) (.c (.o .nil) .n))) ?_
    show SOps ..
    refine zj21 (R := rStablePlanN1) Bq176 (.n rfl) rfl rfl rfl (.p (.t rfl) rfl (.z (fun _ => znilN) (.p (.t rfl) rfl (.n rfl)))) ?_
    refine s_bs (R := rStablePlanN1) Sq177 Yq176 (.n rfl) rfl rfl (.c (.t rfl) .n) rfl (by decide) ?_
    obtain ⟨x28,hx28,ho⟩ := bnd ho
    refine s_app 2 Sq177 Yq176 hx28 (.n rfl) rfl rfl rfl rfl rfl (.t rfl) rfl (.t rfl) rfl (hra := roffs 0 rfl rfl rfl (by decide)) ?_
    intro v29
    refine zw3 1 0 (Uq177).sz rfl rfl (by exact Nat.le_of_ble_eq_true rfl) (.n rfl) rfl rfl (.t rfl) (.t rfl) (by rfl) ?_
    refine run 3 ?_
    refine zd11 1 (fun _ h => by cases h <;> rfl) (Uq177).agg rfl (.n rfl) rfl rfl (.t rfl) rfl ?_
    refine s_st (zv5 0 0 (q := 0) [38,39] rfl rfl rfl rfl (by rfl) ⟨rfl,rfl,trivial⟩) ?_
    obtain ⟨y30,hy30,ho⟩ := bnd ho
    refine zb26 (pre := []) (post := []) (vs := []) (i36.ok _ hy30) rfl (.n rfl) rfl rfl rfl .f (.c (.t rfl) (.c (.fv (zj26 (fun x y hf => i37.ok _ hf) rfl)) .n)) ?_
    show SOps ..
    refine s_bso (R := rStablePlanN1) Sq177 Yq176 (.n rfl) rfl rfl (.c (.t rfl) .n) rfl (by decide) ?_
    intro v31
    refine zw3 1 0 (Uq177).sz rfl rfl (by exact Nat.le_of_ble_eq_true rfl) (.n rfl) rfl rfl (.t rfl) (.t rfl) (by rfl) ?_
    refine run 3 ?_
    refine zd11 1 (fun _ h => by cases h <;> rfl) (Uq177).agg rfl (.n rfl) rfl rfl (.t rfl) rfl ?_
    obtain ⟨x32,hx32,ho⟩ := bnd ho
    refine zg22 0 Sq177 hx32 (.n rfl) rfl rfl (.t rfl) rfl (.i (by decide) (by decide)) ?_
    refine zz25 zl21 (by decide) (.n rfl) rfl rfl (.t rfl) ?_
    refine zs17 0 (fun _ h => by cases h <;> rfl) U3 zw5 (zb8 hx32).2.2.2 (.n rfl) rfl rfl (.t rfl) rfl ?_
    refine run 2 ?_
    refine wct ho (fun hq33 ho => ?_) fun hq33 ho => ?_
    ·cases ho; exact zf1 (fun fr h s => And.intro rfl (Exists.intro [v31] (s.pick [1,2,0] trivial rfl (by decide))))
    ·cases ho; exact zi9 (fun fr h s => And.intro rfl (Exists.intro [v31] (s.pick [1,2,0] trivial rfl (by decide))))
   ·clear ht34
    rcases t34 with b36 | b37
    ·have ho := alt_l ho
     intro g38
     refine st_wk (Γ' := [(0,.val (rSlice rStableTrack) (p_0)),(1,.val (rSlice rStableCar) (p_1)),(2,.val (rSlice rStableLeave) (p_2)),(6,.raw (.ptr b1 0)),(7,vI (0)),(8,.val (rPtr (rPtr zf)) (((p_0,p_1,p_2,()):zi))),(9,.raw (.ptr b8 0)),(13,.val (rSlice rStableTrack) (p_0)),(14,.val (rSlice rStableCar) (p_1)),(15,.val (rSlice rStableLeave) (p_2)),(16,.val zf (((p_0,p_1,p_2,()):zi))),(17,.val (rPtr zf) (((p_0,p_1,p_2,()):zi))),(18,.val (rPtr zf) (((p_0,p_1,p_2,()):zi))),(19,vB (y3)),(20,vB ((!y3))),(22,.val (rPtr zf) (((p_0,p_1,p_2,()):zi))),(23,vB (y5)),(24,vB ((!y5))),(26,.val rStablePlanN1 ((([],(),1048576,()):StablePlanN1))),(27,.raw v7),(28,.val (rPtr zf) (((p_0,p_1,p_2,()):zi))),(29,.val (rClo 60 [] [.val (rPtr (rPtr zf)) (y9)]) ())]) (L' := [(.ptr b8 0,.box [.raw ((gh g38 0))]),(.ptr b1 0,.box [.val (rSlice (rInt .i64)) ([]),.val (rSlice (rInt .i64)) ([]),vI (0)]),((gh g38 0),.row rStablePlanN1 (b36))]) [0,1,2] ⟨rfl,rfl,rfl,rfl,rfl,rfl,rfl,rfl,rfl,rfl,rfl,rfl,rfl,rfl,rfl,rfl,rfl,rfl,rfl,rfl,rfl,rfl,trivial⟩ rfl (by decide) ?_
     show ∀ fr h,St _ [(0,.val (rSlice rStableTrack) (p_0)),(1,.val (rSlice rStableCar) (p_1)),(2,.val (rSlice rStableLeave) (p_2)),(6,.raw (.ptr b1 0)),(7,vI (0)),(8,.val (rPtr (rPtr zf)) (((p_0,p_1,p_2,()):zi))),(9,.raw (.ptr b8 0)),(13,.val (rSlice rStableTrack) (p_0)),(14,.val (rSlice rStableCar) (p_1)),(15,.val (rSlice rStableLeave) (p_2)),(16,.val zf (((p_0,p_1,p_2,()):zi))),(17,.val (rPtr zf) (((p_0,p_1,p_2,()):zi))),(18,.val (rPtr zf) (((p_0,p_1,p_2,()):zi))),(19,vB (y3)),(20,vB ((!y3))),(22,.val (rPtr zf) (((p_0,p_1,p_2,()):zi))),(23,vB (y5)),(24,vB ((!y5))),(26,.val rStablePlanN1 ((([],(),1048576,()):StablePlanN1))),(27,.raw v7),(28,.val (rPtr zf) (((p_0,p_1,p_2,()):zi))),(29,.val (rClo 60 [] [.val (rPtr (rPtr zf)) (y9)]) ())] [(.ptr b8 0,.box [.raw ((gh g38 0))]),(.ptr b1 0,.box [.val (rSlice (rInt .i64)) ([]),.val (rSlice (rInt .i64)) ([]),vI (0)]),((gh g38 0),.row rStablePlanN1 (b36))] fr h → _
     show SRun ..
     refine run 2 ?_
     refine zd11 0 (fun _ h => by cases h <;> rfl) (Uq177).agg rfl (.n rfl) rfl rfl (.t rfl) rfl ?_
     obtain ⟨x39,hx39,ho⟩ := bnd ho
     refine zg22 2 Sq177 hx39 (.n rfl) rfl rfl (.t rfl) rfl (.i (by decide) (by decide)) ?_
     refine zs17 2 (fun _ h => by cases h <;> rfl) Uq176 FOk.self (zb8 hx39).2.2.2 (.n rfl) rfl rfl (.t rfl) rfl ?_
     refine xal (zv := .agg [.nilslice,.nilslice,.int .i64 0]) (es := [.val (rSlice (rInt .i64)) ([]),.val (rSlice (rInt .i64)) ([]),vI (0)]) (by kernel_rfl) fun b40 => ?_
     refine zu6 0 Uq176 rfl (zb (zd rfl) (zb (zd rfl) (zb (zd rfl) zt rfl) rfl) rfl) (by rfl) (.n rfl) rfl rfl (.t rfl) (.t rfl) (by rfl) ?_
     refine s_st (zp16 (q := 1) 0 rfl rfl rfl) ?_
     refine s_st (zm (rInt .i64)) ?_
     refine run 8 ?_
     refine wct ho (fun hq41 ho => ?_) fun hq41 ho => ?_
     ·refine run 6 ?_
      cases ho; exact r_ret (zg2 (.inr rfl) (.b 3 U51 (zb (zd rfl) (zb (zd rfl) (zb (zd rfl) zt rfl) rfl) rfl) rfl rfl (.v rfl .n)) (by decide))
     ·refine run 9 ?_
      obtain ⟨t230,ht230,ho⟩ := bnd ho
      refine wlp ht230 [2,6,8,11,55] (fun s g => ([(56,vI (s.1))],[(.ptr b40 0,.box [.val (rSlice (rInt .i64)) (x39.1),.raw ((gh g 0)),vI (x39.2.2.1)]),(.ptr b1 0,.box [.val (rSlice (rInt .i64)) ([]),.val (rSlice (rInt .i64)) ([]),vI (0)]),((gh g 0),.row (rInt .i64) (s.2))])) (fun b => (.exit 2,fun g => ([],[(.ptr b40 0,.box [.val (rSlice (rInt .i64)) (x39.1),.raw ((gh g 0)),vI (x39.2.2.1)]),(.ptr b1 0,.box [.val (rSlice (rInt .i64)) ([]),.val (rSlice (rInt .i64)) ([]),vI (0)]),((gh g 0),.row (rInt .i64) (b))]))) [.nilslice] SEL (pk [1,3,0]) NE (fun s166 g167 _ ho => ?_) fun g231 => ?_
      ·refine run 5 ?_
       refine wct ho (fun hq168 ho => ?_) fun hq168 ho => ?_
       ·refine run 10 ?_
        obtain ⟨t228,ht228,ho⟩ := bnd ho
        refine wlp ht228 [2,6,8,11,55,56,59] (fun s g => ([(60,vI (s.1))],[(.ptr b40 0,.box [.val (rSlice (rInt .i64)) (x39.1),.raw ((gh g 0)),vI (x39.2.2.1)]),(.ptr b1 0,.box [.val (rSlice (rInt .i64)) ([]),.val (rSlice (rInt .i64)) ([]),vI (0)]),((gh g 0),.row (rInt .i64) (s.2))])) (fun b => (.exit 4,fun g => ([],[(.ptr b40 0,.box [.val (rSlice (rInt .i64)) (x39.1),.raw ((gh g 0)),vI (x39.2.2.1)]),(.ptr b1 0,.box [.val (rSlice (rInt .i64)) ([]),.val (rSlice (rInt .i64)) ([]),vI (0)]),((gh g 0),.row (rInt .i64) (b))]))) [(gh g167 0)] SEL (pk [0,1,2]) NE (fun s207 g208 _ ho => ?_) fun g229 => ?_
        ·refine run 5 ?_
         refine wct ho (fun hq209 ho => ?_) fun hq209 ho => ?_
         ·refine run 9 ?_
          refine zz4 [1,8,10,17,1000011] (by kernel_rfl) ?_
          refine run 3 ?_
          refine xcl ho ?_
          intro y217 hy217 ho
          show SOps ..
          refine run 2 ?_
          refine wbr ho (fun hb218 ho => ?_) fun hb218 ho => ?_
          ·refine run 5 ?_
           refine xcl ho ?_
           intro y219 hy219 ho v220
           show SOps ..
           refine run 2 ?_
           obtain ⟨x221,hx221,ho⟩ := bnd ho
           refine s_app 0 S27 Y3 hx221 (.g rfl rfl (gt1 hb218)) rfl rfl rfl rfl rfl (.t rfl) rfl (.t rfl) rfl (hra := roffs 1 rfl rfl rfl (by decide)) ?_
           intro v222
           refine xcl ho ?_
           intro y223 hy223 ho
           show SOps ..
           refine run 5 ?_
           refine wct ho (fun hq224 ho => ?_) fun hq224 ho => ?_
           ·refine run 6 ?_
            obtain ⟨x225,hx225,ho⟩ := bnd ho
            refine xap fun v226 => ?_
            refine run 1 ?_
            refine zw3 2 0 (U27).sz rfl rfl (by exact Nat.le_of_ble_eq_true rfl) (.n rfl) rfl rfl (.t rfl) (.t rfl) (by rfl) ?_
            refine run 1 ?_
            cases ho; exact zf1 (lf [v226] [2,3,0])
           ·refine run 4 ?_
            cases ho; exact s_nil (lf [(gh g208 0)] [1,2,3])
          ·refine run 15 ?_
           refine zw1 (.t rfl) (fun hq => by cases hq) (fun _ => ?_)
           refine run 4 ?_
           cases ho; exact s_nil (lf [(gh g208 0)] [0,1,2])
         ·cases ho; exact zf1 (lf [(gh g208 0)] [0,1,2])
        ·show SRun ..
         refine run 3 ?_
         cases ho; exact s_nil (lf [(gh g229 0)] [0,1,2])
       ·cases ho; exact zf1 (lf [(gh g167 0)] [0,1,2])
      ·show SRun ..
       refine run 2 ?_
       refine s_st (zv5 2 0 (q := 1) [] rfl rfl rfl rfl (by rfl) trivial) ?_
       refine zh10 (R := rStablePlan) (a := (x39.1,t230,x39.2.2.1,())) 0 (fun _ h => by cases h <;> rfl) U51 (zb (zd rfl) (zb (zd rfl) (zb (zd rfl) zt rfl) rfl) rfl) (.n rfl) rfl rfl (.t rfl) rfl ?_
       refine run 3 ?_
       cases ho; exact r_ret (zg2 (.inr rfl) (.b 1 U51 (zb (zd rfl) (zb (zd rfl) (zb (zd rfl) zt rfl) rfl) rfl) rfl rfl (.v rfl .n)) (by decide))
    ·have ho := alt_r ho
     intro g232
     refine st_wk (Γ' := [(0,.val (rSlice rStableTrack) (p_0)),(1,.val (rSlice rStableCar) (p_1)),(2,.val (rSlice rStableLeave) (p_2)),(6,.raw (.ptr b1 0)),(7,vI (0)),(8,.val (rPtr (rPtr zf)) (((p_0,p_1,p_2,()):zi))),(9,.raw (.ptr b8 0)),(13,.val (rSlice rStableTrack) (p_0)),(14,.val (rSlice rStableCar) (p_1)),(15,.val (rSlice rStableLeave) (p_2)),(16,.val zf (((p_0,p_1,p_2,()):zi))),(17,.val (rPtr zf) (((p_0,p_1,p_2,()):zi))),(18,.val (rPtr zf) (((p_0,p_1,p_2,()):zi))),(19,vB (y3)),(20,vB ((!y3))),(22,.val (rPtr zf) (((p_0,p_1,p_2,()):zi))),(23,vB (y5)),(24,vB ((!y5))),(26,.val rStablePlanN1 ((([],(),1048576,()):StablePlanN1))),(27,.raw v7),(28,.val (rPtr zf) (((p_0,p_1,p_2,()):zi))),(29,.val (rClo 60 [] [.val (rPtr (rPtr zf)) (y9)]) ())]) (L' := [(.ptr b8 0,.box [.raw ((gh g232 0))]),(.ptr b1 0,.box [.val (rSlice (rInt .i64)) ([]),.val (rSlice (rInt .i64)) ([]),vI (0)]),((gh g232 0),.row rStablePlanN1 (b37))]) [0,1,2] ⟨rfl,rfl,rfl,rfl,rfl,rfl,rfl,rfl,rfl,rfl,rfl,rfl,rfl,rfl,rfl,rfl,rfl,rfl,rfl,rfl,rfl,rfl,trivial⟩ rfl (by decide) ?_
     show ∀ fr h,St _ [(0,.val (rSlice rStableTrack) (p_0)),(1,.val (rSlice rStableCar) (p_1)),(2,.val (rSlice rStableLeave) (p_2)),(6,.raw (.ptr b1 0)),(7,vI (0)),(8,.val (rPtr (rPtr zf)) (((p_0,p_1,p_2,()):zi))),(9,.raw (.ptr b8 0)),(13,.val (rSlice rStableTrack) (p_0)),(14,.val (rSlice rStableCar) (p_1)),(15,.val (rSlice rStableLeave) (p_2)),(16,.val zf (((p_0,p_1,p_2,()):zi))),(17,.val (rPtr zf) (((p_0,p_1,p_2,()):zi))),(18,.val (rPtr zf) (((p_0,p_1,p_2,()):zi))),(19,vB (y3)),(20,vB ((!y3))),(22,.val (rPtr zf) (((p_0,p_1,p_2,()):zi))),(23,vB (y5)),(24,vB ((!y5))),(26,.val rStablePlanN1 ((([],(),1048576,()):StablePlanN1))),(27,.raw v7),(28,.val (rPtr zf) (((p_0,p_1,p_2,()):zi))),(29,.val (rClo 60 [] [.val (rPtr (rPtr zf)) (y9)]) ())] [(.ptr b8 0,.box [.raw ((gh g232 0))]),(.ptr b1 0,.box [.val (rSlice (rInt .i64)) ([]),.val (rSlice (rInt .i64)) ([]),vI (0)]),((gh g232 0),.row rStablePlanN1 (b37))] fr h → _
     show SRun ..
     refine run 2 ?_
     refine zd11 0 (fun _ h => by cases h <;> rfl) (Uq177).agg rfl (.n rfl) rfl rfl (.t rfl) rfl ?_
     obtain ⟨x233,hx233,ho⟩ := bnd ho
     refine zg22 2 Sq177 hx233 (.n rfl) rfl rfl (.t rfl) rfl (.i (by decide) (by decide)) ?_
     refine zs17 2 (fun _ h => by cases h <;> rfl) Uq176 FOk.self (zb8 hx233).2.2.2 (.n rfl) rfl rfl (.t rfl) rfl ?_
     refine xal (zv := .agg [.nilslice,.nilslice,.int .i64 0]) (es := [.val (rSlice (rInt .i64)) ([]),.val (rSlice (rInt .i64)) ([]),vI (0)]) (by kernel_rfl) fun b234 => ?_
     refine zu6 0 Uq176 rfl (zb (zd rfl) (zb (zd rfl) (zb (zd rfl) zt rfl) rfl) rfl) (by rfl) (.n rfl) rfl rfl (.t rfl) (.t rfl) (by rfl) ?_
     refine s_st (zp16 (q := 1) 0 rfl rfl rfl) ?_
     refine s_st (zm (rInt .i64)) ?_
     refine run 8 ?_
     refine wct ho (fun hq235 ho => ?_) fun hq235 ho => ?_
     ·refine run 6 ?_
      cases ho; exact r_ret (zg2 (.inr rfl) (.b 3 U51 (zb (zd rfl) (zb (zd rfl) (zb (zd rfl) zt rfl) rfl) rfl) rfl rfl (.v rfl .n)) (by decide))
     ·refine run 9 ?_
      obtain ⟨t424,ht424,ho⟩ := bnd ho
      refine wlp ht424 [2,6,8,11,55] (fun s g => ([(56,vI (s.1))],[(.ptr b234 0,.box [.val (rSlice (rInt .i64)) (x233.1),.raw ((gh g 0)),vI (x233.2.2.1)]),(.ptr b1 0,.box [.val (rSlice (rInt .i64)) ([]),.val (rSlice (rInt .i64)) ([]),vI (0)]),((gh g 0),.row (rInt .i64) (s.2))])) (fun b => (.exit 2,fun g => ([],[(.ptr b234 0,.box [.val (rSlice (rInt .i64)) (x233.1),.raw ((gh g 0)),vI (x233.2.2.1)]),(.ptr b1 0,.box [.val (rSlice (rInt .i64)) ([]),.val (rSlice (rInt .i64)) ([]),vI (0)]),((gh g 0),.row (rInt .i64) (b))]))) [.nilslice] SEL (pk [1,3,0]) NE (fun s360 g361 _ ho => ?_) fun g425 => ?_
      ·refine run 5 ?_
       refine wct ho (fun hq362 ho => ?_) fun hq362 ho => ?_
       ·refine run 10 ?_
        obtain ⟨t422,ht422,ho⟩ := bnd ho
        refine wlp ht422 [2,6,8,11,55,56,59] (fun s g => ([(60,vI (s.1))],[(.ptr b234 0,.box [.val (rSlice (rInt .i64)) (x233.1),.raw ((gh g 0)),vI (x233.2.2.1)]),(.ptr b1 0,.box [.val (rSlice (rInt .i64)) ([]),.val (rSlice (rInt .i64)) ([]),vI (0)]),((gh g 0),.row (rInt .i64) (s.2))])) (fun b => (.exit 4,fun g => ([],[(.ptr b234 0,.box [.val (rSlice (rInt .i64)) (x233.1),.raw ((gh g 0)),vI (x233.2.2.1)]),(.ptr b1 0,.box [.val (rSlice (rInt .i64)) ([]),.val (rSlice (rInt .i64)) ([]),vI (0)]),((gh g 0),.row (rInt .i64) (b))]))) [(gh g361 0)] SEL (pk [0,1,2]) NE (fun s401 g402 _ ho => ?_) fun g423 => ?_
        ·refine run 5 ?_
         refine wct ho (fun hq403 ho => ?_) fun hq403 ho => ?_
         ·refine run 9 ?_
          refine zz4 [1,8,10,17,1000011] (by kernel_rfl) ?_
          refine run 3 ?_
          refine xcl ho ?_
          intro y411 hy411 ho
          show SOps ..
          refine run 2 ?_
          refine wbr ho (fun hb412 ho => ?_) fun hb412 ho => ?_
          ·refine run 5 ?_
           refine xcl ho ?_
           intro y413 hy413 ho v414
           show SOps ..
           refine run 2 ?_
           obtain ⟨x415,hx415,ho⟩ := bnd ho
           refine s_app 0 S27 Y3 hx415 (.g rfl rfl (gt1 hb412)) rfl rfl rfl rfl rfl (.t rfl) rfl (.t rfl) rfl (hra := roffs 1 rfl rfl rfl (by decide)) ?_
           intro v416
           refine xcl ho ?_
           intro y417 hy417 ho
           show SOps ..
           refine run 5 ?_
           refine wct ho (fun hq418 ho => ?_) fun hq418 ho => ?_
           ·refine run 6 ?_
            obtain ⟨x419,hx419,ho⟩ := bnd ho
            refine xap fun v420 => ?_
            refine run 1 ?_
            refine zw3 2 0 (U27).sz rfl rfl (by exact Nat.le_of_ble_eq_true rfl) (.n rfl) rfl rfl (.t rfl) (.t rfl) (by rfl) ?_
            refine run 1 ?_
            cases ho; exact zf1 (lf [v420] [2,3,0])
           ·refine run 4 ?_
            cases ho; exact s_nil (lf [(gh g402 0)] [1,2,3])
          ·refine run 15 ?_
           refine zw1 (.t rfl) (fun hq => by cases hq) (fun _ => ?_)
           refine run 4 ?_
           cases ho; exact s_nil (lf [(gh g402 0)] [0,1,2])
         ·cases ho; exact zf1 (lf [(gh g402 0)] [0,1,2])
        ·show SRun ..
         refine run 3 ?_
         cases ho; exact s_nil (lf [(gh g423 0)] [0,1,2])
       ·cases ho; exact zf1 (lf [(gh g361 0)] [0,1,2])
      ·show SRun ..
       refine run 2 ?_
       refine s_st (zv5 2 0 (q := 1) [] rfl rfl rfl rfl (by rfl) trivial) ?_
       refine zh10 (R := rStablePlan) (a := (x233.1,t424,x233.2.2.1,())) 0 (fun _ h => by cases h <;> rfl) U51 (zb (zd rfl) (zb (zd rfl) (zb (zd rfl) zt rfl) rfl) rfl) (.n rfl) rfl rfl (.t rfl) rfl ?_
       refine run 3 ?_
       cases ho; exact r_ret (zg2 (.inr rfl) (.b 1 U51 (zb (zd rfl) (zb (zd rfl) (zb (zd rfl) zt rfl) rfl) rfl) rfl rfl (.v rfl .n)) (by decide))⟩
instance i70 {s_0 f_1}:FI ktab 70 (zc3 s_0 f_1) [.val (rSlice (rInt .i64)) s_0,.val (rFn ktab (Int) (Bool) (fun x => [.val (rInt .i64) (x)]) (fun y => [.val rBool (y)])) f_1] (fun out => [.val (rInt .i64) (out)]) := ⟨fun out ho => by
 delta zc3 at ho
 refine fn fun _ _ => ?_
 refine run 12 ?_
 obtain ⟨t11,ht11,ho⟩ := bnd ho
 refine wlp ht11 [0,1,7] (fun s g => ([(8,vI (s))],[])) (altX (fun b => (.exit 0,fun g => ([],[]))) (fun b => (.ret,fun g => ([(4,vI (b))],[])))) [] SEL (pk []) NE (fun s5 g6 _ ho => ?_) fun g12 => ?_
 ·refine run 5 ?_
  refine wct ho (fun hq7 ho => ?_) fun hq7 ho => ?_
  ·refine run 13 ?_
   obtain ⟨x8,hx8,ho⟩ := bnd ho
   refine run 2 ?_
   obtain ⟨y9,hy9,ho⟩ := bnd ho
   refine zn4 (X := (Int)) (Y := (Bool)) (f := f_1) (x := x8) hy9 (.n rfl) rfl rfl rfl (.t rfl) (.c (.t rfl) .n) ?_
   exact w ho
  ·cases ho; exact zf1 (lf [] [])
 ·rcases t11 with b13 | b14
  ·have ho := alt_l ho
   show SRun ..
   exact w ho
  ·have ho := alt_r ho
   cases ho; exact id (zg2 (.inr rfl) (.v rfl .n) (by decide))⟩
instance i42 {s_0 f_1}:FI ktab 42 (zy s_0 f_1) [.val (rSlice (rInt .i64)) s_0,.val (rFn ktab (Int) (Bool) (fun x => [.val (rInt .i64) (x)]) (fun y => [.val rBool (y)])) f_1] (fun out => [.val rBool (out)]) := ⟨fun out ho => by
 delta zy at ho
 refine fn fun _ _ => ?_
 exact w ho⟩
instance i57 {n_0 low_1 high_2}:FI ktab 57 (zh1 n_0 low_1 high_2) [vI n_0,vI low_1,vI high_2] (fun out => [.val rBool (out)]) := ⟨fun out ho => by
 delta zh1 at ho
 refine fn fun _ _ => ?_
 refine run 5 ?_
 obtain ⟨c2,hc2,ho⟩ := bnd ho
 refine wcx c2 [] (fun t => (.normal,fun _ => ([(6,vB (t))],[]))) SEL ?_ fun _ => ?_
 ·exact w hc2
 ·show SRun ..
  cases ho; exact r_ret (zg2 (.inr rfl) (.v rfl .n) (by decide))⟩
instance i58 {d_0}:FI ktab 58 (za5 d_0) [vI d_0] (fun out => [.val rBool (out)]) := ⟨fun out ho => by
 delta za5 at ho
 refine fn fun _ _ => ?_
 exact w ho⟩
instance i28 {p_0 p_1}:FI ktab 28 (zp4 p_0 p_1) [.val (rSlice rTask) p_0,.val rYard p_1] (fun out => [.val (rInt .i64) (out)]) := ⟨fun out ho => by
 delta zp4 at ho
 refine fn fun _ _ => ?_
 refine run 14 ?_
 obtain ⟨c6,hc6,ho⟩ := bnd ho
 refine wcx c6 [0,3,5] (fun t => (.normal,fun _ => ([(33,vB (t))],[]))) SEL ?_ fun _ => ?_
 ·exact w hc6
 ·show SRun ..
  refine wct ho (fun hq12 ho => ?_) fun hq12 ho => ?_
  ·exact w ho
  ·refine run 10 ?_
   obtain ⟨t41,ht41,ho⟩ := bnd ho
   refine wlp ht41 [0,5,35,36] (fun s g => ([(37,vI (s))],[])) (altX (fun b => (.exit 0,fun g => ([],[]))) (fun b => (.ret,fun g => ([(4,vI (b))],[])))) [] SEL (pk []) NE (fun s26 g27 _ ho => ?_) fun g42 => ?_
   ·refine run 5 ?_
    refine wct ho (fun hq28 ho => ?_) fun hq28 ho => ?_
    ·refine run 6 ?_
     obtain ⟨x29,hx29,ho⟩ := bnd ho
     refine run 12 ?_
     refine wbr ho (fun hb34 ho => ?_) fun hb34 ho => ?_
     ·refine run 11 ?_
      refine zw1 (.t rfl) (fun _ => ?_) (fun hq => by cases hq)
      exact w ho
     ·refine run 2 ?_
      obtain ⟨x36,hx36,ho⟩ := bnd ho
      refine run 5 ?_
      refine wbr ho (fun hb37 ho => ?_) fun hb37 ho => ?_
      ·refine run 4 ?_
       refine zw1 (.t rfl) (fun _ => ?_) (fun hq => by cases hq)
       exact w ho
      ·refine run 1 ?_
       obtain ⟨y39,hy39,ho⟩ := bnd ho
       refine ze11 (i42.ok _ hy39) (.v zs13 .n) rfl (.g rfl rfl (gf0 hb37)) rfl rfl rfl .f (.c (.o (.t rfl)) (.c (.o (.fv (zj26 (fun x y hf => i58.ok _ hf) rfl))) .n)) ?_
       exact w ho
    ·cases ho; exact zf1 (lf [] [])
   ·rcases t41 with b43 | b44
    ·have ho := alt_l ho
     show SRun ..
     refine run 8 ?_
     obtain ⟨t101,ht101,ho⟩ := bnd ho
     refine wlp ht101 [0,5,58,59] (fun s g => ([(60,vI (s))],[])) (altX (fun b => (.exit 2,fun g => ([],[]))) (fun b => (.ret,fun g => ([(4,vI (b))],[])))) [] SEL (pk []) NE (fun s72 g73 _ ho => ?_) fun g102 => ?_
     ·refine run 5 ?_
      refine wct ho (fun hq74 ho => ?_) fun hq74 ho => ?_
      ·refine run 6 ?_
       obtain ⟨x75,hx75,ho⟩ := bnd ho
       refine run 2 ?_
       refine xal (zv := .agg [.int .i64 0,.int .i64 0,.int .i64 0,.int .i64 0]) (es := [vI (0),vI (0),vI (0),vI (0)]) (by kernel_rfl) fun b76 => ?_
       refine run 2 ?_
       refine s_st (zn1 (R := rTask) (a := x75) 0 [9] (zb (zd rfl) (zb (zd rfl) (zb (zd rfl) (zb (zd rfl) zt rfl) rfl) rfl) rfl) rfl rfl ⟨rfl,trivial⟩) ?_
       refine run 7 ?_
       refine xcl ho ?_
       intro y86 hy86 ho
       show SOps ..
       refine run 2 ?_
       refine wbr ho (fun hb87 ho => ?_) fun hb87 ho => ?_
       ·refine run 36 ?_
        refine zw1 (.t rfl) (fun _ => ?_) (fun hq => by cases hq)
        exact w ho
       ·refine run 4 ?_
        refine xcl ho ?_
        intro y89 hy89 ho
        show SOps ..
        refine run 3 ?_
        refine wbr ho (fun hb90 ho => ?_) fun hb90 ho => ?_
        ·refine run 28 ?_
         refine zw1 (.t rfl) (fun _ => ?_) (fun hq => by cases hq)
         exact w ho
        ·refine run 4 ?_
         refine xcl ho ?_
         intro y92 hy92 ho
         show SOps ..
         refine run 3 ?_
         refine wbr ho (fun hb93 ho => ?_) fun hb93 ho => ?_
         ·refine run 20 ?_
          refine zw1 (.t rfl) (fun _ => ?_) (fun hq => by cases hq)
          exact w ho
         ·refine run 5 ?_
          refine wbr ho (fun hb95 ho => ?_) fun hb95 ho => ?_
          ·refine run 15 ?_
           refine zw1 (.t rfl) (fun _ => ?_) (fun hq => by cases hq)
           exact w ho
          ·refine run 3 ?_
           refine wbr ho (fun hb97 ho => ?_) fun hb97 ho => ?_
           ·exact w ho
           ·refine run 12 ?_
            refine zw1 (.t rfl) (fun hq => by cases hq) (fun _ => ?_)
            exact w ho
      ·cases ho; exact zf1 (lf [] [])
     ·rcases t101 with b103 | b104
      ·have ho := alt_l ho
       show SRun ..
       exact w ho
      ·have ho := alt_r ho
       cases ho; exact id (zg2 (.inr rfl) (.v rfl .n) (by decide))
    ·have ho := alt_r ho
     cases ho; exact id (zg2 (.inr rfl) (.v rfl .n) (by decide))⟩
instance i31 {w_0 a_1 b_2}:FI ktab 31 (zp w_0 a_1 b_2) [.val (rPtr zq) w_0,vI a_1,vI b_2] (fun out => [.val rBool (out)]) := ⟨fun out ho => by
 delta zp at ho
 refine fn fun _ _ => ?_
 refine run 11 ?_
 obtain ⟨x1,hx1,ho⟩ := bnd ho
 refine run 7 ?_
 obtain ⟨x2,hx2,ho⟩ := bnd ho
 refine run 2 ?_
 refine xal (zv := .agg [.int .i64 0,.int .i64 0,.int .i64 0,.int .i64 0]) (es := [vI (0),vI (0),vI (0),vI (0)]) (by kernel_rfl) fun b3 => ?_
 refine xal (zv := .agg [.int .i64 0,.int .i64 0,.int .i64 0,.int .i64 0]) (es := [vI (0),vI (0),vI (0),vI (0)]) (by kernel_rfl) fun b4 => ?_
 refine run 1 ?_
 refine s_st (zn1 (R := rTask) (a := x1) 1 [7] (zb (zd rfl) (zb (zd rfl) (zb (zd rfl) (zb (zd rfl) zt rfl) rfl) rfl) rfl) rfl rfl ⟨rfl,trivial⟩) ?_
 refine run 1 ?_
 refine s_st (zn1 (R := rTask) (a := x2) 0 [8] (zb (zd rfl) (zb (zd rfl) (zb (zd rfl) (zb (zd rfl) zt rfl) rfl) rfl) rfl) rfl rfl ⟨rfl,trivial⟩) ?_
 refine run 10 ?_
 obtain ⟨x5,hx5,ho⟩ := bnd ho
 refine run 4 ?_
 obtain ⟨x6,hx6,ho⟩ := bnd ho
 refine run 5 ?_
 obtain ⟨c9,hc9,ho⟩ := bnd ho
 refine wcx c9 [] (fun t => (.normal,fun _ => ([(6,vB (t))],[]))) SEL ?_ fun _ => ?_
 ·exact w hc9
 ·show SRun ..
  cases ho; exact r_ret (zg2 (.inr rfl) (.v rfl .n) (by decide))⟩
instance i77 {p_0 p_1}:FI ktab 77 (zw p_0 p_1) [.val (rPtr zq) p_0,.val (rSlice (rSlice (rInt .i64))) p_1] (fun out => [.val rBool (out)]) := ⟨fun out ho => by
 delta zw at ho
 refine fn fun _ _ => ?_
 refine run 11 ?_
 obtain ⟨x1,hx1,ho⟩ := bnd ho
 refine xmk fun v2 => ?_
 refine run 14 ?_
 obtain ⟨t458,ht458,ho⟩ := bnd ho
 refine wlp ht458 [] (fun s g => ([(0,.val (rPtr zq) (p_0)),(1,.val (rSlice (rSlice (rInt .i64))) (p_1)),(5,.raw v2),(6,vI (s.1)),(17,.val (rSlice (rSlice (rInt .i64))) (p_1)),(18,vI ((lenI p_1))),(19,vI (s.2.1))],[(v2,.row rBool (s.2.2))])) (altX (fun b => (.exit 0,fun g => ([(0,.val (rPtr zq) (p_0)),(6,vI (b.1))],[]))) (fun b => (.ret,fun g => ([(4,vB (b))],[])))) [] SEL (pk [0]) NE (fun s297 g298 _ ho => ?_) fun g459 => ?_
 ·refine run 5 ?_
  refine wct ho (fun hq299 ho => ?_) fun hq299 ho => ?_
  ·refine run 6 ?_
   obtain ⟨x300,hx300,ho⟩ := bnd ho
   refine run 12 ?_
   refine wbr ho (fun hb306 ho => ?_) fun hb306 ho => ?_
   ·refine run 17 ?_
    refine zw1 (.t rfl) (fun _ => ?_) (fun hq => by cases hq)
    exact w ho
   ·refine run 3 ?_
    refine wbr ho (fun hb308 ho => ?_) fun hb308 ho => ?_
    ·refine run 1 ?_
     obtain ⟨x309,hx309,ho⟩ := bnd ho
     refine run 5 ?_
     obtain ⟨x310,hx310,ho⟩ := bnd ho
     refine run 2 ?_
     obtain ⟨x311,hx311,ho⟩ := bnd ho
     refine run 6 ?_
     refine wct ho (fun hq312 ho => ?_) fun hq312 ho => ?_
     ·exact w ho
     ·refine run 8 ?_
      obtain ⟨t381,ht381,ho⟩ := bnd ho
      refine wlp ht381 [0,1,5,8,17,18,19,28,29,30,31,32,33,34,35,36,37,38,39,40,41,42,44,45] (fun s g => ([(6,vI (s.1)),(46,vI (s.2.1))],[(v2,.row rBool (s.2.2))])) (altX (fun b => (.exit 2,fun g => ([(6,vI (b.1))],[(v2,.row rBool (b.2))]))) (fun b => (.ret,fun g => ([(4,vB (b.1))],[])))) [] SEL (pk [0]) NE (fun s357 g358 _ ho => ?_) fun g382 => ?_
      ·refine run 5 ?_
       refine wct ho (fun hq359 ho => ?_) fun hq359 ho => ?_
       ·refine run 6 ?_
        obtain ⟨x360,hx360,ho⟩ := bnd ho
        refine run 15 ?_
        refine xcl ho ?_
        intro y368 hy368 ho
        show SOps ..
        refine run 2 ?_
        refine wbr ho (fun hb369 ho => ?_) fun hb369 ho => ?_
        ·refine run 21 ?_
         refine zw1 (.t rfl) (fun _ => ?_) (fun hq => by cases hq)
         exact w ho
        ·refine run 2 ?_
         obtain ⟨x371,hx371,ho⟩ := bnd ho
         refine run 4 ?_
         refine wbr ho (fun hb372 ho => ?_) fun hb372 ho => ?_
         ·refine run 15 ?_
          refine zw1 (.t rfl) (fun _ => ?_) (fun hq => by cases hq)
          exact w ho
         ·refine run 3 ?_
          refine wbr ho (fun hb374 ho => ?_) fun hb374 ho => ?_
          ·refine run 4 ?_
           obtain ⟨x375,hx375,ho⟩ := bnd ho
           refine run 3 ?_
           refine xcl ho ?_
           intro y376 hy376 ho
           show SOps ..
           refine run 4 ?_
           refine wct ho (fun hq377 ho => ?_) fun hq377 ho => ?_
           ·exact w ho
           ·refine run 5 ?_
            obtain ⟨x378,hx378,ho⟩ := bnd ho
            refine run 11 ?_
            cases ho; exact s_nil (lf [] [0])
          ·refine run 12 ?_
           refine zw1 (.t rfl) (fun hq => by cases hq) (fun _ => ?_)
           refine run 5 ?_
           obtain ⟨x380,hx380,ho⟩ := bnd ho
           refine run 11 ?_
           cases ho; exact s_nil (lf [] [0])
       ·cases ho; exact zf1 (lf [] [0])
      ·rcases t381 with b383 | b384
       ·have ho := alt_l ho
        show SRun ..
        refine run 3 ?_
        cases ho; exact s_nil (lf [] [0])
       ·have ho := alt_r ho
        cases ho; exact id (lf [] [])
    ·refine run 14 ?_
     refine zw1 (.t rfl) (fun hq => by cases hq) (fun _ => ?_)
     refine run 8 ?_
     obtain ⟨t454,ht454,ho⟩ := bnd ho
     refine wlp ht454 [0,1,5,8,17,18,19,28,29,30,42,44,45] (fun s g => ([(6,vI (s.1)),(46,vI (s.2.1))],[(v2,.row rBool (s.2.2))])) (altX (fun b => (.exit 2,fun g => ([(6,vI (b.1))],[(v2,.row rBool (b.2))]))) (fun b => (.ret,fun g => ([(4,vB (b.1))],[])))) [] SEL (pk [0]) NE (fun s430 g431 _ ho => ?_) fun g455 => ?_
     ·refine run 5 ?_
      refine wct ho (fun hq432 ho => ?_) fun hq432 ho => ?_
      ·refine run 6 ?_
       obtain ⟨x433,hx433,ho⟩ := bnd ho
       refine run 15 ?_
       refine xcl ho ?_
       intro y441 hy441 ho
       show SOps ..
       refine run 2 ?_
       refine wbr ho (fun hb442 ho => ?_) fun hb442 ho => ?_
       ·refine run 21 ?_
        refine zw1 (.t rfl) (fun _ => ?_) (fun hq => by cases hq)
        exact w ho
       ·refine run 2 ?_
        obtain ⟨x444,hx444,ho⟩ := bnd ho
        refine run 4 ?_
        refine wbr ho (fun hb445 ho => ?_) fun hb445 ho => ?_
        ·refine run 15 ?_
         refine zw1 (.t rfl) (fun _ => ?_) (fun hq => by cases hq)
         exact w ho
        ·refine run 3 ?_
         refine wbr ho (fun hb447 ho => ?_) fun hb447 ho => ?_
         ·refine run 4 ?_
          obtain ⟨x448,hx448,ho⟩ := bnd ho
          refine run 3 ?_
          refine xcl ho ?_
          intro y449 hy449 ho
          show SOps ..
          refine run 4 ?_
          refine wct ho (fun hq450 ho => ?_) fun hq450 ho => ?_
          ·exact w ho
          ·refine run 5 ?_
           obtain ⟨x451,hx451,ho⟩ := bnd ho
           refine run 11 ?_
           cases ho; exact s_nil (lf [] [0])
         ·refine run 12 ?_
          refine zw1 (.t rfl) (fun hq => by cases hq) (fun _ => ?_)
          refine run 5 ?_
          obtain ⟨x453,hx453,ho⟩ := bnd ho
          refine run 11 ?_
          cases ho; exact s_nil (lf [] [0])
      ·cases ho; exact zf1 (lf [] [0])
     ·rcases t454 with b456 | b457
      ·have ho := alt_l ho
       show SRun ..
       refine run 3 ?_
       cases ho; exact s_nil (lf [] [0])
      ·have ho := alt_r ho
       cases ho; exact id (lf [] [])
  ·cases ho; exact zf1 (lf [] [])
 ·rcases t458 with b460 | b461
  ·have ho := alt_l ho
   show SRun ..
   exact w ho
  ·have ho := alt_r ho
   cases ho; exact id (zg2 (.inr rfl) (.v rfl .n) (by decide))⟩
instance i78 {x_0}:FI ktab 78 (zq4 x_0) [vI x_0] (fun out => [.val rBool (out)]) := ⟨fun out ho => by
 delta zq4 at ho
 refine fn fun _ _ => ?_
 exact w ho⟩
instance i52 {tasks_0 y_1 cars_2 r_3}:FI ktab 52 (zt4 tasks_0 y_1 cars_2 r_3) [.val (rSlice rTask) tasks_0,.val rYard y_1,.val (rSlice (rSlice (rInt .i64))) cars_2,.val rWorkRules r_3] (fun out => [.val (rPtrN zg1) (out.1),.val rBool (out.2)]) := ⟨fun out ho => by
 delta zt4 at ho
 refine fn fun _ _ => ?_
 refine run 4 ?_
 refine zw2 rfl (.n rfl) rfl (e := .val (rPtrN zg1) none) (fun z fr h s => ⟨_,rfl,zx13⟩) ?_
 refine run 7 ?_
 refine xcl ho ?_
 intro y1 hy1 ho
 show SOps ..
 refine run 2 ?_
 refine wct ho (fun hq2 ho => ?_) fun hq2 ho => ?_
 ·refine run 2 ?_
  refine zw2 rfl (.n rfl) rfl (e := .val (rPtrN zg1) none) (fun z fr h s => ⟨_,rfl,zx13⟩) ?_
  exact w ho
 ·refine run 15 ?_
  obtain ⟨c6,hc6,ho⟩ := bnd ho
  refine wcx c6 [10] (fun t => (.normal,fun _ => ([(45,vB (t))],[]))) SEL ?_ fun _ => ?_
  ·have ho := hc6
   refine run 6 ?_
   refine xcl ho ?_
   intro y7 hy7 ho
   show SOps ..
   refine run 2 ?_
   refine wbr ho (fun hb8 ho => ?_) fun hb8 ho => ?_
   ·exact w ho
   ·refine run 13 ?_
    obtain ⟨y9,hy9,ho⟩ := bnd ho
    refine ze11 (i42.ok _ hy9) (.v zs13 .n) rfl (.g rfl rfl (gf0 hb8)) rfl rfl rfl .f (.c (.o (.t rfl)) (.c (.o (.fv (zj26 (fun x y hf => i78.ok _ hf) rfl))) .n)) ?_
    exact w ho
  ·show SRun ..
   refine wct ho (fun hq10 ho => ?_) fun hq10 ho => ?_
   ·refine run 2 ?_
    refine zw2 rfl (.n rfl) rfl (e := .val (rPtrN zg1) none) (fun z fr h s => ⟨_,rfl,zx13⟩) ?_
    exact w ho
   ·refine run 7 ?_
    cases ho
    refine r_st (zd34 (n := 8) rfl) ?_
    exact r_ret (zg2 (.inr rfl) (.v rfl (.v rfl .n)) (by decide))⟩
instance i53 {c_0}:FI ktab 53 (zy3 c_0) [.val (rPtr zg1) c_0] (fun out => [.row rDutyPiece (out)]) := ⟨fun out ho => by
 delta zy3 at ho
 refine fn fun _ _ => ?_
 refine run 2 ?_
 refine s_st (zm rDutyPiece) ?_
 refine zx (.n rfl) rfl rfl .nilr ?_
 refine run 3 ?_
 refine s_st (zm rDutyPiece) ?_
 refine zx (.n rfl) rfl rfl .nilr ?_
 refine run 12 ?_
 obtain ⟨t59,ht59,ho⟩ := bnd ho
 refine wlp ht59 [11,12] (fun s g => ([(3,.raw ((gh g 0))),(13,vI (s.2))],[((gh g 0),.row rDutyPiece (s.1))])) (fun b => (.exit 0,fun g => ([(3,.raw ((gh g 0)))],[((gh g 0),.row rDutyPiece (b))]))) [.nilslice] SEL (pk [0]) NE (fun s29 g30 _ ho => ?_) fun g60 => ?_
 ·refine run 5 ?_
  refine wct ho (fun hq31 ho => ?_) fun hq31 ho => ?_
  ·refine run 6 ?_
   obtain ⟨x32,hx32,ho⟩ := bnd ho
   refine run 12 ?_
   obtain ⟨t57,ht57,ho⟩ := bnd ho
   refine wlp ht57 [4,5,11,12,13,19] (fun s g => ([(3,.raw ((gh g 0))),(20,vI (s.2))],[((gh g 0),.row rDutyPiece (s.1))])) (fun b => (.exit 2,fun g => ([(3,.raw ((gh g 0)))],[((gh g 0),.row rDutyPiece (b))]))) [(gh g30 0)] SEL (pk [0]) NE (fun s44 g45 _ ho => ?_) fun g58 => ?_
   ·refine run 5 ?_
    refine wct ho (fun hq46 ho => ?_) fun hq46 ho => ?_
    ·refine run 14 ?_
     obtain ⟨t55,ht55,ho⟩ := bnd ho
     refine wlp ht55 [4,5,6,11,12,13,19,20] (fun s g => ([(3,.raw ((gh g 0))),(7,vI (s.2))],[((gh g 0),.row rDutyPiece (s.1))])) (fun b => (.exit 4,fun g => ([(3,.raw ((gh g 0)))],[((gh g 0),.row rDutyPiece (b))]))) [(gh g45 0)] SEL (pk [0]) NE (fun s50 g51 _ ho => ?_) fun g56 => ?_
     ·refine run 8 ?_
      refine wct ho (fun hq52 ho => ?_) fun hq52 ho => ?_
      ·refine run 10 ?_
       obtain ⟨x53,hx53,ho⟩ := bnd ho
       refine xap fun v54 => ?_
       refine run 6 ?_
       cases ho; exact s_nil (lf [v54] [0])
      ·cases ho; exact zf1 (lf [(gh g51 0)] [0])
     ·show SRun ..
      refine run 3 ?_
      cases ho; exact s_nil (lf [(gh g56 0)] [0])
    ·cases ho; exact zf1 (lf [(gh g45 0)] [0])
   ·show SRun ..
    refine run 3 ?_
    cases ho; exact s_nil (lf [(gh g58 0)] [0])
  ·cases ho; exact zf1 (lf [(gh g30 0)] [0])
 ·show SRun ..
  exact w ho⟩
instance i99 {s_0 f_1}:FI ktab 99 (zd1 s_0 f_1) [.val (rSlice rDutyPiece) s_0,.val (rFn ktab (DutyPiece) (Bool) (fun x => [.val rDutyPiece (x)]) (fun y => [.val rBool (y)])) f_1] (fun out => [.val (rInt .i64) (out)]) := ⟨fun out ho => by
 delta zd1 at ho
 refine fn fun _ _ => ?_
 refine run 12 ?_
 obtain ⟨t11,ht11,ho⟩ := bnd ho
 refine wlp ht11 [0,1,7] (fun s g => ([(8,vI (s))],[])) (altX (fun b => (.exit 0,fun g => ([],[]))) (fun b => (.ret,fun g => ([(4,vI (b))],[])))) [] SEL (pk []) NE (fun s5 g6 _ ho => ?_) fun g12 => ?_
 ·refine run 5 ?_
  refine wct ho (fun hq7 ho => ?_) fun hq7 ho => ?_
  ·refine run 13 ?_
   obtain ⟨x8,hx8,ho⟩ := bnd ho
   refine run 2 ?_
   obtain ⟨y9,hy9,ho⟩ := bnd ho
   refine zn4 (X := (DutyPiece)) (Y := (Bool)) (f := f_1) (x := x8) hy9 (.n rfl) rfl rfl rfl (.t rfl) (.c (.t rfl) .n) ?_
   exact w ho
  ·cases ho; exact zf1 (lf [] [])
 ·rcases t11 with b13 | b14
  ·have ho := alt_l ho
   show SRun ..
   exact w ho
  ·have ho := alt_r ho
   cases ho; exact id (zg2 (.inr rfl) (.v rfl .n) (by decide))⟩
instance i90 {s_0 f_1}:FI ktab 90 (zo s_0 f_1) [.val (rSlice rDutyPiece) s_0,.val (rFn ktab (DutyPiece) (Bool) (fun x => [.val rDutyPiece (x)]) (fun y => [.val rBool (y)])) f_1] (fun out => [.val rBool (out)]) := ⟨fun out ho => by
 delta zo at ho
 refine fn fun _ _ => ?_
 exact w ho⟩
instance i94 {c_0 p_1}:FI ktab 94 (zm2 c_0 p_1) [.val (rPtr zg1) c_0,.val rDutyPiece p_1] (fun out => [.val rTask (out)]) := ⟨fun out ho => by
 delta zm2 at ho
 refine fn fun _ _ => ?_
 refine run 3 ?_
 refine xal (zv := .agg [.int .i64 0,.int .i64 0,.int .i64 0,.int .i64 0]) (es := [vI (0),vI (0),vI (0),vI (0)]) (by kernel_rfl) fun b1 => ?_
 refine run 16 ?_
 obtain ⟨x2,hx2,ho⟩ := bnd ho
 refine run 4 ?_
 obtain ⟨x3,hx3,ho⟩ := bnd ho
 refine run 2 ?_
 obtain ⟨x4,hx4,ho⟩ := bnd ho
 refine run 4 ?_
 cases ho; exact r_ret (zg2 (.inr rfl) (.b 0 U49 (zb (zd rfl) (zb (zd rfl) (zb (zd rfl) (zb (zd rfl) zt rfl) rfl) rfl) rfl) rfl rfl .n) (by decide))⟩
instance i95 {c_0 p_1}:FI ktab 95 (zj2 c_0 p_1) [.val (rPtr zg1) c_0,.val rDutyPiece p_1] (fun out => [.val rTask (out)]) := ⟨fun out ho => by
 delta zj2 at ho
 refine fn fun _ _ => ?_
 refine run 3 ?_
 refine xal (zv := .agg [.int .i64 0,.int .i64 0,.int .i64 0,.int .i64 0]) (es := [vI (0),vI (0),vI (0),vI (0)]) (by kernel_rfl) fun b1 => ?_
 refine run 16 ?_
 obtain ⟨x2,hx2,ho⟩ := bnd ho
 refine run 4 ?_
 obtain ⟨x3,hx3,ho⟩ := bnd ho
 refine run 2 ?_
 obtain ⟨x4,hx4,ho⟩ := bnd ho
 refine run 4 ?_
 cases ho; exact r_ret (zg2 (.inr rfl) (.b 0 U49 (zb (zd rfl) (zb (zd rfl) (zb (zd rfl) (zb (zd rfl) zt rfl) rfl) rfl) rfl) rfl rfl .n) (by decide))⟩
instance i92 {c_0 p_1}:FI ktab 92 (zq3 c_0 p_1) [.val (rPtr zg1) c_0,.val rDutyPiece p_1] (fun out => [.val (rInt .i64) (out)]) := ⟨fun out ho => by
 delta zq3 at ho
 refine fn fun _ _ => ?_
 exact w ho⟩
instance i91 {p_0 p_1}:FI ktab 91 (zh3 p_0 p_1) [.val rDutyPiece p_0,.val (rPtr (rPtr zg1)) p_1] (fun out => [.val rBool (out)]) := ⟨fun out ho => by
 delta zh3 at ho
 refine fn fun _ _ => ?_
 exact w ho⟩
instance i79 {c_0 d_1}:FI ktab 79 (zn2 c_0 d_1) [.val (rPtr zg1) c_0,.val rDuty d_1] (fun out => [.val rBool (out)]) := ⟨fun out ho => by
 delta zn2 at ho
 refine fn fun _ _ => ?_
 refine run 10 ?_
 refine zj6 (X := (DutyPiece)) (Y := (Bool)) (fun x => [.val rDutyPiece (x)]) (fun y => [.val rBool (y)]) (f := (fun x => zh3 x c_0)) (fun x y hf => i91.ok _ hf) rfl (.n rfl) rfl rfl .n (.c (.t rfl) .n) ?_
 exact w ho⟩
instance i93 {p_0 p_1}:FI ktab 93 (zv2 p_0 p_1) [.val rDutyPiece p_0,.val (rPtr (rPtr zg1)) p_1] (fun out => [.val rBool (out)]) := ⟨fun out ho => by
 delta zv2 at ho
 refine fn fun _ _ => ?_
 refine run 6 ?_
 obtain ⟨c13,hc13,ho⟩ := bnd ho
 refine wcx c13 [] (fun t => (.normal,fun _ => ([(3,vB (t))],[]))) SEL ?_ fun _ => ?_
 ·exact w hc13
 ·show SRun ..
  cases ho; exact r_ret (zg2 (.inr rfl) (.v rfl .n) (by decide))⟩
instance i80 {c_0 d_1}:FI ktab 80 (zh2 c_0 d_1) [.val (rPtr zg1) c_0,.val rDuty d_1] (fun out => [.val rBool (out)]) := ⟨fun out ho => by
 delta zh2 at ho
 refine fn fun _ _ => ?_
 refine run 10 ?_
 refine zj6 (X := (DutyPiece)) (Y := (Bool)) (fun x => [.val rDutyPiece (x)]) (fun y => [.val rBool (y)]) (f := (fun x => zv2 x c_0)) (fun x y hf => i93.ok _ hf) rfl (.n rfl) rfl rfl .n (.c (.t rfl) .n) ?_
 exact w ho⟩
instance i96 {c_0 d_1}:FI ktab 96 (zi3 c_0 d_1) [.val (rPtr zg1) c_0,.val rDuty d_1] (fun out => [.val (rInt .i64) (out.1),.val (rInt .i64) (out.2)]) := ⟨fun out ho => by
 delta zi3 at ho
 refine fn fun _ _ => ?_
 refine run 11 ?_
 obtain ⟨x1,hx1,ho⟩ := bnd ho
 refine run 2 ?_
 refine xcl ho ?_
 intro y2 hy2 ho
 show SOps ..
 refine run 3 ?_
 obtain ⟨x3,hx3,ho⟩ := bnd ho
 refine run 2 ?_
 refine xcl ho ?_
 intro y4 hy4 ho
 show SOps ..
 refine xal (zv := .agg [.int .i64 0,.int .i64 0,.int .i64 0,.int .i64 0]) (es := [vI (0),vI (0),vI (0),vI (0)]) (by kernel_rfl) fun b5 => ?_
 refine xal (zv := .agg [.int .i64 0,.int .i64 0,.int .i64 0,.int .i64 0]) (es := [vI (0),vI (0),vI (0),vI (0)]) (by kernel_rfl) fun b6 => ?_
 refine run 1 ?_
 refine s_st (zn1 (R := rTask) (a := y2) 1 [6] (zb (zd rfl) (zb (zd rfl) (zb (zd rfl) (zb (zd rfl) zt rfl) rfl) rfl) rfl) rfl rfl ⟨rfl,trivial⟩) ?_
 refine run 1 ?_
 refine s_st (zn1 (R := rTask) (a := y4) 0 [7] (zb (zd rfl) (zb (zd rfl) (zb (zd rfl) (zb (zd rfl) zt rfl) rfl) rfl) rfl) rfl rfl ⟨rfl,trivial⟩) ?_
 exact w ho⟩
instance i81 {c_0 d_1}:FI ktab 81 (zr1 c_0 d_1) [.val (rPtr zg1) c_0,.val rDuty d_1] (fun out => [.val rBool (out)]) := ⟨fun out ho => by
 delta zr1 at ho
 refine fn fun _ _ => ?_
 refine run 13 ?_
 refine wct ho (fun hq1 ho => ?_) fun hq1 ho => ?_
 ·exact w ho
 ·refine run 5 ?_
  refine xcl ho ?_
  intro y2 hy2 ho
  show SOps ..
  refine run 7 ?_
  obtain ⟨c4,hc4,ho⟩ := bnd ho
  refine wcx c4 [] (fun t => (.normal,fun _ => ([(4,vB (t))],[]))) SEL ?_ fun _ => ?_
  ·exact w hc4
  ·show SRun ..
   cases ho; exact r_ret (zg2 (.inr rfl) (.v rfl .n) (by decide))⟩
instance i82 {c_0 d_1}:FI ktab 82 (zv1 c_0 d_1) [.val (rPtr zg1) c_0,.val rDuty d_1] (fun out => [.val rBool (out)]) := ⟨fun out ho => by
 delta zv1 at ho
 refine fn fun _ _ => ?_
 refine run 7 ?_
 obtain ⟨c3,hc3,ho⟩ := bnd ho
 refine wcx c3 [0,3] (fun t => (.normal,fun _ => ([(15,vB (t))],[]))) SEL ?_ fun _ => ?_
 ·exact w hc3
 ·show SRun ..
  exact w ho⟩
instance i97 {c_0 d_1}:FI ktab 97 (ze5 c_0 d_1) [.val (rPtr zg1) c_0,.val rDuty d_1] (fun out => [.val (rInt .i64) (out)]) := ⟨fun out ho => by
 delta ze5 at ho
 refine fn fun _ _ => ?_
 exact w ho⟩
instance i83 {c_0 d_1}:FI ktab 83 (zx2 c_0 d_1) [.val (rPtr zg1) c_0,.val rDuty d_1] (fun out => [.val rBool (out)]) := ⟨fun out ho => by
 delta zx2 at ho
 refine fn fun _ _ => ?_
 exact w ho⟩
instance i84 {c_0 d_1}:FI ktab 84 (zb2 c_0 d_1) [.val (rPtr zg1) c_0,.val rDuty d_1] (fun out => [.val rBool (out)]) := ⟨fun out ho => by
 delta zb2 at ho
 refine fn fun _ _ => ?_
 refine run 29 ?_
 obtain ⟨t11,ht11,ho⟩ := bnd ho
 refine wlp ht11 [0,20,21] (fun s g => ([(5,vI (s.1)),(22,vI (s.2))],[])) (fun b => (.exit 0,fun g => ([(5,vI (b))],[]))) [] SEL (pk []) NE (fun s5 g6 _ ho => ?_) fun g12 => ?_
 ·refine run 5 ?_
  refine wct ho (fun hq7 ho => ?_) fun hq7 ho => ?_
  ·refine run 5 ?_
   obtain ⟨x8,hx8,ho⟩ := bnd ho
   refine run 2 ?_
   refine xal (zv := .agg [.int .i64 0,.int .i64 0,.int .i64 0]) (es := [vI (0),vI (0),vI (0)]) (by kernel_rfl) fun b9 => ?_
   refine run 1 ?_
   refine s_st (zn1 (R := rDutyPiece) (a := x8) 0 [7] (zb (zd rfl) (zb (zd rfl) (zb (zd rfl) zt rfl) rfl) rfl) rfl rfl ⟨rfl,trivial⟩) ?_
   exact w ho
  ·cases ho; exact zf1 (lf [] [])
 ·show SRun ..
  exact w ho⟩
instance i54 {c_0 d_1}:FI ktab 54 (zt2 c_0 d_1) [.val (rPtr zg1) c_0,.val rDuty d_1] (fun out => [.row (rInt .i64) (out)]) := ⟨fun out ho => by
 delta zt2 at ho
 refine fn fun _ _ => ?_
 refine run 3 ?_
 refine s_st (zm (rInt .i64)) ?_
 refine zx (.n rfl) rfl rfl .nilr ?_
 refine run 4 ?_
 refine zj6 (X := (Duty)) (Y := (Bool)) (fun x => [.val rDuty (x)]) (fun y => [.val rBool (y)]) (f := (fun x => zn2 c_0 x)) (fun x y hf => i79.ok _ hf) rfl (.n rfl) rfl rfl (.c (.t rfl) .n) .n ?_
 refine run 1 ?_
 refine zj6 (X := (Duty)) (Y := (Bool)) (fun x => [.val rDuty (x)]) (fun y => [.val rBool (y)]) (f := (fun x => zh2 c_0 x)) (fun x y hf => i80.ok _ hf) rfl (.n rfl) rfl rfl (.c (.t rfl) .n) .n ?_
 refine run 1 ?_
 refine zj6 (X := (Duty)) (Y := (Bool)) (fun x => [.val rDuty (x)]) (fun y => [.val rBool (y)]) (f := (fun x => zr1 c_0 x)) (fun x y hf => i81.ok _ hf) rfl (.n rfl) rfl rfl (.c (.t rfl) .n) .n ?_
 refine run 1 ?_
 refine zj6 (X := (Duty)) (Y := (Bool)) (fun x => [.val rDuty (x)]) (fun y => [.val rBool (y)]) (f := (fun x => zv1 c_0 x)) (fun x y hf => i82.ok _ hf) rfl (.n rfl) rfl rfl (.c (.t rfl) .n) .n ?_
 refine run 1 ?_
 refine zj6 (X := (Duty)) (Y := (Bool)) (fun x => [.val rDuty (x)]) (fun y => [.val rBool (y)]) (f := (fun x => zx2 c_0 x)) (fun x y hf => i83.ok _ hf) rfl (.n rfl) rfl rfl (.c (.t rfl) .n) .n ?_
 refine run 1 ?_
 refine zj6 (X := (Duty)) (Y := (Bool)) (fun x => [.val rDuty (x)]) (fun y => [.val rBool (y)]) (f := (fun x => zb2 c_0 x)) (fun x y hf => i84.ok _ hf) rfl (.n rfl) rfl rfl (.c (.t rfl) .n) .n ?_
 refine zq30 (R := (rFn ktab (Duty) (Bool) (fun x => [.val rDuty (x)]) (fun y => [.val rBool (y)]))) (zc := [.nilfunc,.nilfunc,.nilfunc,.nilfunc,.nilfunc,.nilfunc]) AR143 (by kernel_rfl) (by rfl) (.n rfl) rfl rfl (.c (.t rfl) (.c (.t rfl) (.c (.t rfl) (.c (.t rfl) (.c (.t rfl) (.c (.t rfl) .n)))))) (by rfl) ?_
 refine xal (zv := .agg [.nilfunc,.nilfunc,.nilfunc,.nilfunc,.nilfunc,.nilfunc]) (es := [.raw (.nilfunc),.raw (.nilfunc),.raw (.nilfunc),.raw (.nilfunc),.raw (.nilfunc),.raw (.nilfunc)]) (by kernel_rfl) fun b1 => ?_
 refine zk26 0 AR143 rfl (by rfl) (by decide) (.n rfl) rfl rfl (.t rfl) (.t rfl) (by rfl) ?_
 refine run 3 ?_
 refine s_st (zm (rInt .i64)) ?_
 refine zx (.n rfl) rfl rfl .nilr ?_
 refine run 4 ?_
 refine zu33 1 (fun _ h => by cases h <;> rfl) AR143 rfl (.n rfl) rfl rfl (.t rfl) ?_
 refine run 3 ?_
 obtain ⟨t16,ht16,ho⟩ := bnd ho
 refine wlp ht16 [3,22] (fun s g => ([(6,.raw ((gh g 0))),(23,vI (s.2))],[((gh g 0),.row (rInt .i64) (s.1))])) (fun b => (.exit 0,fun g => ([(6,.raw ((gh g 0)))],[((gh g 0),.row (rInt .i64) (b))]))) [.nilslice] SEL (pk [0]) NE (fun s8 g9 _ ho => ?_) fun g17 => ?_
 ·refine run 5 ?_
  refine wct ho (fun hq10 ho => ?_) fun hq10 ho => ?_
  ·refine run 6 ?_
   obtain ⟨x11,hx11,ho⟩ := bnd ho
   refine run 8 ?_
   obtain ⟨y12,hy12,ho⟩ := bnd ho
   refine zn4 (X := (Duty)) (Y := (Bool)) (f := x11) (x := d_1) hy12 (.n rfl) rfl rfl rfl (.t rfl) (.c (.t rfl) .n) ?_
   show SOps ..
   refine run 1 ?_
   refine wct ho (fun hq13 ho => ?_) fun hq13 ho => ?_
   ·refine run 5 ?_
    obtain ⟨x14,hx14,ho⟩ := bnd ho
    refine xap fun v15 => ?_
    refine run 5 ?_
    cases ho; exact s_nil (lf [v15] [0])
   ·refine run 4 ?_
    cases ho; exact s_nil (lf [(gh g9 0)] [0])
  ·cases ho; exact zf1 (lf [(gh g9 0)] [0])
 ·show SRun ..
  exact w ho⟩
instance i17 {p_0 p_1 p_2 p_3}:FI ktab 17 (zn3 p_0 p_1 p_2 p_3) [.val (rSlice rTask) p_0,.val rYard p_1,.val (rSlice (rSlice (rInt .i64))) p_2,.val rWorkRules p_3] (fun out => [.row (rInt .i64) (out.1),.val (rInt .i64) (out.2)]) := ⟨fun out ho => by
 delta zn3 at ho
 refine fn fun _ _ => ?_
 refine run 4 ?_
 refine s_st (zm (rInt .i64)) ?_
 refine zx (.n rfl) rfl rfl .nilr ?_
 refine run 8 ?_
 refine xcl ho ?_
 intro y1 hy1 ho
 show SOps ..
 refine run 12 ?_
 refine wct ho (fun hq2 ho => ?_) fun hq2 ho => ?_
 ·refine run 2 ?_
  refine s_st (zm (rInt .i64)) ?_
  refine zx (.n rfl) rfl rfl .nilr ?_
  exact w ho
 ·refine run 5 ?_
  obtain ⟨x3,hx3,ho⟩ := bnd ho
  refine xmk fun v4 => ?_
  refine run 6 ?_
  obtain ⟨p5,hp5,ho⟩ := bnd ho
  refine s_st (zo16 (n := 33) hp5 rfl) ?_
  refine xcl ho ?_
  intro y6 hy6 ho v7
  show SOps ..
  refine run 4 ?_
  obtain ⟨t76,ht76,ho⟩ := bnd ho
  refine wlp ht76 [2,10,12,34,35] (fun s g => ([(36,vI (s.1))],[(v7,.row rDutyPiece (y6)),(v4,.row rBool (s.2))])) (fun b => (.exit 0,fun g => ([],[(v4,.row rBool (b))]))) [] SEL (pk [0,1]) NE (fun s52 g53 _ ho => ?_) fun g77 => ?_
  ·refine run 5 ?_
   refine wct ho (fun hq54 ho => ?_) fun hq54 ho => ?_
   ·refine run 5 ?_
    obtain ⟨x55,hx55,ho⟩ := bnd ho
    refine run 2 ?_
    refine xal (zv := .agg [.int .i64 0,.int .i64 0,.int .i64 0]) (es := [vI (0),vI (0),vI (0)]) (by kernel_rfl) fun b56 => ?_
    refine run 1 ?_
    refine s_st (zn1 (R := rDutyPiece) (a := x55) 0 [14] (zb (zd rfl) (zb (zd rfl) (zb (zd rfl) zt rfl) rfl) rfl) rfl rfl ⟨rfl,trivial⟩) ?_
    refine run 7 ?_
    obtain ⟨p57,hp57,ho⟩ := bnd ho
    refine s_st (zo16 (n := 40) hp57 rfl) ?_
    refine xcl ho ?_
    intro y58 hy58 ho v59
    show SOps ..
    refine run 3 ?_
    refine wct ho (fun hq60 ho => ?_) fun hq60 ho => ?_
    ·refine run 5 ?_
     obtain ⟨x61,hx61,ho⟩ := bnd ho
     refine run 7 ?_
     obtain ⟨x62,hx62,ho⟩ := bnd ho
     refine run 5 ?_
     obtain ⟨t74,ht74,ho⟩ := bnd ho
     refine wlp ht74 [2,10,12,34,35,36,57,58] (fun s g => ([(59,vI (s.1))],[(v7,.row rDutyPiece (y6)),(v4,.row rBool (s.2))])) (fun b => (.exit 2,fun g => ([],[(v7,.row rDutyPiece (y6)),(v4,.row rBool (b))]))) [] SEL (pk [1,2]) NE (fun s69 g70 _ ho => ?_) fun g75 => ?_
     ·refine run 5 ?_
      refine wct ho (fun hq71 ho => ?_) fun hq71 ho => ?_
      ·refine run 5 ?_
       obtain ⟨x72,hx72,ho⟩ := bnd ho
       refine run 7 ?_
       obtain ⟨x73,hx73,ho⟩ := bnd ho
       refine run 6 ?_
       cases ho; exact s_nil (lf [] [0,1])
      ·cases ho; exact zf1 (lf [] [0,1])
     ·show SRun ..
      refine run 3 ?_
      cases ho; exact s_nil (lf [] [0,1])
    ·refine run 4 ?_
     cases ho; exact s_nil (lf [] [1,2])
   ·cases ho; exact zf1 (lf [] [1])
  ·show SRun ..
   refine run 2 ?_
   refine s_st (zm (rInt .i64)) ?_
   refine zx (.n rfl) rfl rfl .nilr ?_
   refine run 9 ?_
   obtain ⟨t90,ht90,ho⟩ := bnd ho
   refine wlp ht90 [68,69] (fun s g => ([(17,.raw ((gh g 0))),(70,vI (s.2))],[(v4,.row rBool (t76)),((gh g 0),.row (rInt .i64) (s.1))])) (fun b => (.exit 4,fun g => ([(17,.raw ((gh g 0)))],[((gh g 0),.row (rInt .i64) (b))]))) [.nilslice] SEL (pk [1,0]) NE (fun s83 g84 _ ho => ?_) fun g91 => ?_
   ·refine run 5 ?_
    refine wct ho (fun hq85 ho => ?_) fun hq85 ho => ?_
    ·refine run 6 ?_
     obtain ⟨x86,hx86,ho⟩ := bnd ho
     refine run 10 ?_
     refine wct ho (fun hq87 ho => ?_) fun hq87 ho => ?_
     ·refine run 4 ?_
      obtain ⟨x88,hx88,ho⟩ := bnd ho
      refine xap fun v89 => ?_
      refine run 5 ?_
      cases ho; exact s_nil (lf [v89] [1,0])
     ·refine run 4 ?_
      cases ho; exact s_nil (lf [(gh g84 0)] [0,1])
    ·cases ho; exact zf1 (lf [(gh g84 0)] [1])
   ·show SRun ..
    exact w ho⟩
instance i19 {i_0 p_1 p_2}:FI ktab 19 (zs2 i_0 p_1 p_2) [vI i_0,.val (rPtr (rSlice rTask)) p_1,.val (rPtr (rSlice (rSlice (rInt .i64)))) p_2] (fun out => [.val (rInt .i64) (out)]) := ⟨fun out ho => by
 delta zs2 at ho
 refine fn fun _ _ => ?_
 exact w ho⟩
instance i20 {i_0 p_1 p_2 p_3}:FI ktab 20 (zc2 i_0 p_1 p_2 p_3) [vI i_0,.val (rPtr (rSlice rTask)) p_1,.val (rPtr (rSlice (rSlice (rInt .i64)))) p_2,.val (rPtr (rInt .i64)) p_3] (fun out => [.val (rInt .i64) (out)]) := ⟨fun out ho => by
 delta zc2 at ho
 refine fn fun _ _ => ?_
 exact w ho⟩
theorem zo3   {data_0:(List Int)} {a_1:Int} {b_2:Int} {cmp_3:((Int × Int) → Option (Int))} {out:((List Int))} (ho:ze1 data_0 a_1 b_2 cmp_3 = some out) (v_0:AVal):FunM ktab 85 [.raw v_0,.val (rInt .i64) a_1,.val (rInt .i64) b_2,.val (rFn ktab (Int × Int) (Int) (fun x => [.val (rInt .i64) (x.1),.val (rInt .i64) (x.2)]) (fun y => [.val (rInt .i64) (y)])) cmp_3] [(v_0,.row (rInt .i64) (data_0))] [] (fun γ => [(v_0,.row (rInt .i64) (out))]) := by
 refine ze6 (F := Try.f85) (by rfl) (by rfl) (by rfl) (fun C => ?_)
 delta ze1 at ho
 refine run 7 ?_
 obtain ⟨t144,ht144,ho⟩ := bnd ho
 refine wlp ht144 [0,1,2,3] (fun s g => ([(8,vI (s.1))],[(v_0,.row (rInt .i64) (s.2))])) (fun b => (.exit 0,fun g => ([],[(v_0,.row (rInt .i64) (b))]))) [] SEL (pk [0]) NE (fun s95 g96 _ ho => ?_) fun g145 => ?_
 ·refine run 7 ?_
  refine wct ho (fun hq97 ho => ?_) fun hq97 ho => ?_
  ·refine run 9 ?_
   obtain ⟨t142,ht142,ho⟩ := bnd ho
   refine wlp ht142 [0,1,2,3,8] (fun s g => ([(9,vI (s.1))],[(v_0,.row (rInt .i64) (s.2))])) (fun b => (.exit 2,fun g => ([],[(v_0,.row (rInt .i64) (b))]))) [] SEL (pk [0]) NE (fun s126 g127 _ ho => ?_) fun g143 => ?_
   ·refine run 2 ?_
    refine zz4 [8,13] (by kernel_rfl) ?_
    refine run 4 ?_
    refine wbr ho (fun hb132 ho => ?_) fun hb132 ho => ?_
    ·refine run 3 ?_
     obtain ⟨x133,hx133,ho⟩ := bnd ho
     refine run 5 ?_
     obtain ⟨x134,hx134,ho⟩ := bnd ho
     refine run 2 ?_
     obtain ⟨y135,hy135,ho⟩ := bnd ho
     refine zn4 (X := (Int × Int)) (Y := (Int)) (f := cmp_3) (x := (x133,x134)) hy135 (.g rfl rfl (gt1 hb132)) rfl rfl rfl (.t rfl) (.c (.t rfl) (.c (.t rfl) .n)) ?_
     show SOps ..
     refine run 3 ?_
     refine wct ho (fun hq136 ho => ?_) fun hq136 ho => ?_
     ·refine run 3 ?_
      refine zz4 [9,13] (by kernel_rfl) ?_
      refine run 8 ?_
      obtain ⟨x137,hx137,ho⟩ := bnd ho
      refine run 4 ?_
      obtain ⟨x138,hx138,ho⟩ := bnd ho
      refine run 2 ?_
      obtain ⟨x139,hx139,ho⟩ := bnd ho
      refine run 2 ?_
      obtain ⟨x140,hx140,ho⟩ := bnd ho
      refine run 7 ?_
      cases ho; exact s_nil (lf [] [0])
     ·cases ho; exact zf1 (lf [] [0])
    ·refine run 14 ?_
     refine zw1 (.t rfl) (fun hq => by cases hq) (fun _ => ?_)
     cases ho; exact zf1 (lf [] [0])
   ·show SRun ..
    refine run 4 ?_
    cases ho; exact s_nil (lf [] [0])
  ·cases ho; exact zf1 (lf [] [0])
 ·cases ho; exact id (zy1 [0] [] (.inl rfl) .n rfl (by decide))
theorem zz2   {data_0:(List Int)} {a_1:Int} {b_2:Int} {n_3:Int} {cmp_4:((Int × Int) → Option (Int))} {out:((List Int))} (ho:zu1 data_0 a_1 b_2 n_3 cmp_4 = some out) (v_0:AVal):FunM ktab 100 [.raw v_0,.val (rInt .i64) a_1,.val (rInt .i64) b_2,.val (rInt .i64) n_3,.val (rFn ktab (Int × Int) (Int) (fun x => [.val (rInt .i64) (x.1),.val (rInt .i64) (x.2)]) (fun y => [.val (rInt .i64) (y)])) cmp_4] [(v_0,.row (rInt .i64) (data_0))] [] (fun γ => [(v_0,.row (rInt .i64) (out))]) := by
 refine ze6 (F := Try.f100) (by rfl) (by rfl) (by rfl) (fun C => ?_)
 delta zu1 at ho
 refine run 5 ?_
 obtain ⟨t18,ht18,ho⟩ := bnd ho
 refine wlp ht18 [0,1,2,3] (fun s g => ([(10,vI (s.1))],[(v_0,.row (rInt .i64) (s.2))])) (fun b => (.exit 0,fun g => ([],[(v_0,.row (rInt .i64) (b))]))) [] SEL (pk [0]) NE (fun s11 g12 _ ho => ?_) fun g19 => ?_
 ·refine run 7 ?_
  refine wct ho (fun hq13 ho => ?_) fun hq13 ho => ?_
  ·refine run 3 ?_
   refine zz4 [13,19] (by kernel_rfl) ?_
   refine run 12 ?_
   obtain ⟨x14,hx14,ho⟩ := bnd ho
   refine run 6 ?_
   obtain ⟨x15,hx15,ho⟩ := bnd ho
   refine run 2 ?_
   obtain ⟨x16,hx16,ho⟩ := bnd ho
   refine run 2 ?_
   obtain ⟨x17,hx17,ho⟩ := bnd ho
   refine run 7 ?_
   cases ho; exact s_nil (lf [] [0])
  ·cases ho; exact zf1 (lf [] [0])
 ·cases ho; exact id (zy1 [0] [] (.inl rfl) .n rfl (by decide))
theorem zi4   {data_0:(List Int)} {a_1:Int} {m_2:Int} {b_3:Int} {cmp_4:((Int × Int) → Option (Int))} {out:((List Int))} (ho:zd3 data_0 a_1 m_2 b_3 cmp_4 = some out) (v_0:AVal):FunM ktab 98 [.raw v_0,.val (rInt .i64) a_1,.val (rInt .i64) m_2,.val (rInt .i64) b_3,.val (rFn ktab (Int × Int) (Int) (fun x => [.val (rInt .i64) (x.1),.val (rInt .i64) (x.2)]) (fun y => [.val (rInt .i64) (y)])) cmp_4] [(v_0,.row (rInt .i64) (data_0))] [] (fun γ => [(v_0,.row (rInt .i64) (out))]) := by
 refine ze6 (F := Try.f98) (by rfl) (by rfl) (by rfl) (fun C => ?_)
 delta zd3 at ho
 refine run 16 ?_
 obtain ⟨t21,ht21,ho⟩ := bnd ho
 refine wlp ht21 [0,2,4] (fun s g => ([(10,vI (s.1)),(11,vI (s.2.1))],[(v_0,.row (rInt .i64) (s.2.2))])) (fun b => (.exit 0,fun g => ([(10,vI (b.1))],[(v_0,.row (rInt .i64) (b.2))]))) [] SEL (pk [0]) NE (fun s13 g14 _ ho => ?_) fun g22 => ?_
 ·refine run 7 ?_
  refine wct ho (fun hq15 ho => ?_) fun hq15 ho => ?_
  ·refine run 8 ?_
   refine wct ho (fun hq16 ho => ?_) fun hq16 ho => ?_
   ·refine run 9 ?_
    obtain ⟨y17,hy17,ho⟩ := bnd ho
    refine zi2 [0] [] (fun _ h => by cases h) (zz2 hy17 v_0) rfl rfl (by decide) rfl (.n rfl) rfl rfl rfl .f (.c (.t rfl) (.c (.t rfl) (.c (.t rfl) (.c (.t rfl) (.c (.t rfl) .n))))) ?_
    intro g18
    show SOps ..
    refine run 6 ?_
    cases ho; exact s_nil (lf [] [0])
   ·refine run 13 ?_
    obtain ⟨y19,hy19,ho⟩ := bnd ho
    refine zi2 [0] [] (fun _ h => by cases h) (zz2 hy19 v_0) rfl rfl (by decide) rfl (.n rfl) rfl rfl rfl .f (.c (.t rfl) (.c (.t rfl) (.c (.t rfl) (.c (.t rfl) (.c (.t rfl) .n))))) ?_
    intro g20
    show SOps ..
    refine run 6 ?_
    cases ho; exact s_nil (lf [] [0])
  ·cases ho; exact zf1 (lf [] [0])
 ·show SRun ..
  refine run 8 ?_
  obtain ⟨y23,hy23,ho⟩ := bnd ho
  refine zi2 [0] [] (fun _ h => by cases h) (zz2 hy23 v_0) rfl rfl (by decide) rfl (.n rfl) rfl rfl rfl .f (.c (.t rfl) (.c (.t rfl) (.c (.t rfl) (.c (.t rfl) (.c (.t rfl) .n))))) ?_
  intro g24
  show SOps ..
  cases ho; exact s_nil (zy1 [0] [] (.inl rfl) .n rfl (by decide))
theorem zc5  {rec:(List Int) → Int → Int → Int → ((Int × Int) → Option (Int)) → Option ((List Int))}  (hrec:∀ {p_0:(List Int)} {p_1:Int} {p_2:Int} {p_3:Int} {p_4:((Int × Int) → Option (Int))} {out:((List Int))},rec p_0 p_1 p_2 p_3 p_4 = some out → ∀ (v_0:AVal),FunM ktab 86 [.raw v_0,.val (rInt .i64) p_1,.val (rInt .i64) p_2,.val (rInt .i64) p_3,.val (rFn ktab (Int × Int) (Int) (fun x => [.val (rInt .i64) (x.1),.val (rInt .i64) (x.2)]) (fun y => [.val (rInt .i64) (y)])) p_4] [(v_0,.row (rInt .i64) (p_0))] [] (fun γ => [(v_0,.row (rInt .i64) (out))])) {p_0:(List Int)} {p_1:Int} {p_2:Int} {p_3:Int} {p_4:((Int × Int) → Option (Int))} {out:((List Int))} (ho:zu2 rec p_0 p_1 p_2 p_3 p_4 = some out) (v_0:AVal):FunM ktab 86 [.raw v_0,.val (rInt .i64) p_1,.val (rInt .i64) p_2,.val (rInt .i64) p_3,.val (rFn ktab (Int × Int) (Int) (fun x => [.val (rInt .i64) (x.1),.val (rInt .i64) (x.2)]) (fun y => [.val (rInt .i64) (y)])) p_4] [(v_0,.row (rInt .i64) (p_0))] [] (fun γ => [(v_0,.row (rInt .i64) (out))]) := by
 refine ze6 (F := Try.f86) (by rfl) (by rfl) (by rfl) (fun C => ?_)
 delta zu2 at ho
 refine run 8 ?_
 refine wct ho (fun hq1 ho => ?_) fun hq1 ho => ?_
 ·refine run 12 ?_
  obtain ⟨t16,ht16,ho⟩ := bnd ho
  refine wlp ht16 [0,1,4] (fun s g => ([(10,vI (s.1)),(11,vI (s.2))],[(v_0,.row (rInt .i64) (p_0))])) (fun b => (.exit 0,fun g => ([(10,vI (b))],[(v_0,.row (rInt .i64) (p_0))]))) [] SEL (pk [0]) NE (fun s8 g9 _ ho => ?_) fun g17 => ?_
  ·refine run 7 ?_
   refine wct ho (fun hq10 ho => ?_) fun hq10 ho => ?_
   ·refine run 8 ?_
    obtain ⟨x11,hx11,ho⟩ := bnd ho
    refine run 5 ?_
    refine zz4 [4,8] (by kernel_rfl) ?_
    refine run 3 ?_
    obtain ⟨x12,hx12,ho⟩ := bnd ho
    refine run 4 ?_
    obtain ⟨x13,hx13,ho⟩ := bnd ho
    refine run 2 ?_
    obtain ⟨y14,hy14,ho⟩ := bnd ho
    refine zn4 (X := (Int × Int)) (Y := (Int)) (f := p_4) (x := (x12,x13)) hy14 (.n rfl) rfl rfl rfl (.t rfl) (.c (.t rfl) (.c (.t rfl) .n)) ?_
    show SOps ..
    refine run 2 ?_
    refine wct ho (fun hq15 ho => ?_) fun hq15 ho => ?_
    ·refine run 4 ?_
     cases ho; exact s_nil (lf [] [0])
    ·refine run 3 ?_
     cases ho; exact s_nil (lf [] [0])
   ·cases ho; exact zf1 (lf [] [0])
  ·show SRun ..
   refine run 7 ?_
   obtain ⟨t35,ht35,ho⟩ := bnd ho
   refine wlp ht35 [0,10] (fun s g => ([(13,vI (s.1))],[(v_0,.row (rInt .i64) (s.2))])) (fun b => (.exit 2,fun g => ([],[(v_0,.row (rInt .i64) (b))]))) [] SEL (pk [0]) NE (fun s28 g29 _ ho => ?_) fun g36 => ?_
   ·refine run 8 ?_
    refine wct ho (fun hq30 ho => ?_) fun hq30 ho => ?_
    ·refine run 3 ?_
     refine zz4 [9,13] (by kernel_rfl) ?_
     refine run 8 ?_
     obtain ⟨x31,hx31,ho⟩ := bnd ho
     refine run 4 ?_
     obtain ⟨x32,hx32,ho⟩ := bnd ho
     refine run 2 ?_
     obtain ⟨x33,hx33,ho⟩ := bnd ho
     refine run 2 ?_
     obtain ⟨x34,hx34,ho⟩ := bnd ho
     refine run 7 ?_
     cases ho; exact s_nil (lf [] [0])
    ·cases ho; exact zf1 (lf [] [0])
   ·show SRun ..
    cases ho; exact r_ret (zy1 [0] [] (.inr rfl) .n rfl (by decide))
 ·refine run 9 ?_
  refine wct ho (fun hq37 ho => ?_) fun hq37 ho => ?_
  ·refine run 12 ?_
   obtain ⟨t52,ht52,ho⟩ := bnd ho
   refine wlp ht52 [0,2,4] (fun s g => ([(14,vI (s.1)),(15,vI (s.2))],[(v_0,.row (rInt .i64) (p_0))])) (fun b => (.exit 4,fun g => ([(14,vI (b))],[(v_0,.row (rInt .i64) (p_0))]))) [] SEL (pk [0]) NE (fun s44 g45 _ ho => ?_) fun g53 => ?_
   ·refine run 7 ?_
    refine wct ho (fun hq46 ho => ?_) fun hq46 ho => ?_
    ·refine run 8 ?_
     obtain ⟨x47,hx47,ho⟩ := bnd ho
     refine run 5 ?_
     refine zz4 [4,8] (by kernel_rfl) ?_
     refine run 3 ?_
     obtain ⟨x48,hx48,ho⟩ := bnd ho
     refine run 4 ?_
     obtain ⟨x49,hx49,ho⟩ := bnd ho
     refine run 2 ?_
     obtain ⟨y50,hy50,ho⟩ := bnd ho
     refine zn4 (X := (Int × Int)) (Y := (Int)) (f := p_4) (x := (x48,x49)) hy50 (.n rfl) rfl rfl rfl (.t rfl) (.c (.t rfl) (.c (.t rfl) .n)) ?_
     show SOps ..
     refine run 3 ?_
     refine wct ho (fun hq51 ho => ?_) fun hq51 ho => ?_
     ·refine run 4 ?_
      cases ho; exact s_nil (lf [] [0])
     ·refine run 3 ?_
      cases ho; exact s_nil (lf [] [0])
    ·cases ho; exact zf1 (lf [] [0])
   ·show SRun ..
    refine run 7 ?_
    obtain ⟨t71,ht71,ho⟩ := bnd ho
    refine wlp ht71 [0,14] (fun s g => ([(17,vI (s.1))],[(v_0,.row (rInt .i64) (s.2))])) (fun b => (.exit 6,fun g => ([],[(v_0,.row (rInt .i64) (b))]))) [] SEL (pk [0]) NE (fun s64 g65 _ ho => ?_) fun g72 => ?_
    ·refine run 7 ?_
     refine wct ho (fun hq66 ho => ?_) fun hq66 ho => ?_
     ·refine run 3 ?_
      refine zz4 [9,13] (by kernel_rfl) ?_
      refine run 8 ?_
      obtain ⟨x67,hx67,ho⟩ := bnd ho
      refine run 4 ?_
      obtain ⟨x68,hx68,ho⟩ := bnd ho
      refine run 2 ?_
      obtain ⟨x69,hx69,ho⟩ := bnd ho
      refine run 2 ?_
      obtain ⟨x70,hx70,ho⟩ := bnd ho
      refine run 7 ?_
      cases ho; exact s_nil (lf [] [0])
     ·cases ho; exact zf1 (lf [] [0])
    ·show SRun ..
     cases ho; exact r_ret (zy1 [0] [] (.inr rfl) .n rfl (by decide))
  ·refine run 7 ?_
   obtain ⟨x73,hx73,ho⟩ := bnd ho
   refine run 23 ?_
   refine wct ho (fun hq74 ho => ?_) fun hq74 ho => ?_
   ·refine run 19 ?_
    obtain ⟨t89,ht89,ho⟩ := bnd ho
    refine wlp ht89 [0,1,2,3,4,18,19,22] (fun s g => ([(20,vI (s.1)),(21,vI (s.2))],[(v_0,.row (rInt .i64) (p_0))])) (fun b => (.exit 8,fun g => ([(20,vI (b))],[(v_0,.row (rInt .i64) (p_0))]))) [] SEL (pk [0]) NE (fun s81 g82 _ ho => ?_) fun g90 => ?_
    ·refine run 7 ?_
     refine wct ho (fun hq83 ho => ?_) fun hq83 ho => ?_
     ·refine run 8 ?_
      obtain ⟨x84,hx84,ho⟩ := bnd ho
      refine run 5 ?_
      refine zz4 [6,10] (by kernel_rfl) ?_
      refine run 5 ?_
      obtain ⟨x85,hx85,ho⟩ := bnd ho
      refine run 4 ?_
      obtain ⟨x86,hx86,ho⟩ := bnd ho
      refine run 2 ?_
      obtain ⟨y87,hy87,ho⟩ := bnd ho
      refine zn4 (X := (Int × Int)) (Y := (Int)) (f := p_4) (x := (x85,x86)) hy87 (.n rfl) rfl rfl rfl (.t rfl) (.c (.t rfl) (.c (.t rfl) .n)) ?_
      show SOps ..
      refine run 3 ?_
      refine wct ho (fun hq88 ho => ?_) fun hq88 ho => ?_
      ·refine run 4 ?_
       cases ho; exact s_nil (lf [] [0])
      ·refine run 3 ?_
       cases ho; exact s_nil (lf [] [0])
     ·cases ho; exact zf1 (lf [] [0])
    ·show SRun ..
     refine run 9 ?_
     obtain ⟨c92,hc92,ho⟩ := bnd ho
     refine wcx c92 [0,1,2,3,4,18,20,24] (fun t => (.normal,fun _ => ([(185,vB (t))],[(v_0,.row (rInt .i64) (p_0))]))) SEL ?_ fun _ => ?_
     ·have ho := hc92
      refine run 5 ?_
      refine wbr ho (fun hb93 ho => ?_) fun hb93 ho => ?_
      ·refine run 4 ?_
       cases ho; exact s_nil (lf [] [0])
      ·refine run 4 ?_
       cases ho; exact s_nil (lf [] [0])
     ·show SRun ..
      refine wct ho (fun hq94 ho => ?_) fun hq94 ho => ?_
      ·refine run 6 ?_
       obtain ⟨y95,hy95,ho⟩ := bnd ho
       refine zi2 [0] [] (fun _ h => by cases h) (zi4 hy95 v_0) rfl rfl (by decide) rfl (.n rfl) rfl rfl rfl .f (.c (.t rfl) (.c (.t rfl) (.c (.t rfl) (.c (.t rfl) (.c (.t rfl) .n))))) ?_
       intro g96
       show SOps ..
       refine run 3 ?_
       obtain ⟨c98,hc98,ho⟩ := bnd ho
       refine wcx c98 [0,1,3,4,18,20,24] (fun t => (.normal,fun _ => ([(199,vB (t))],[(v_0,.row (rInt .i64) (y95))]))) SEL ?_ fun _ => ?_
       ·have ho := hc98
        refine run 5 ?_
        refine wbr ho (fun hb99 ho => ?_) fun hb99 ho => ?_
        ·refine run 4 ?_
         cases ho; exact s_nil (lf [] [0])
        ·refine run 4 ?_
         cases ho; exact s_nil (lf [] [0])
       ·show SRun ..
        refine wct ho (fun hq100 ho => ?_) fun hq100 ho => ?_
        ·refine run 6 ?_
         obtain ⟨y101,hy101,ho⟩ := bnd ho
         refine zi2 [0] [] (fun _ h => by cases h) (hrec hy101 v_0) rfl rfl (by decide) rfl (.n rfl) rfl rfl rfl .f (.c (.t rfl) (.c (.t rfl) (.c (.t rfl) (.c (.t rfl) (.c (.t rfl) .n))))) ?_
         intro g102
         show SOps ..
         refine run 2 ?_
         obtain ⟨c104,hc104,ho⟩ := bnd ho
         refine wcx c104 [0,3,4,18,24] (fun t => (.normal,fun _ => ([(213,vB (t))],[(v_0,.row (rInt .i64) (y101))]))) SEL ?_ fun _ => ?_
         ·have ho := hc104
          refine run 5 ?_
          refine wbr ho (fun hb105 ho => ?_) fun hb105 ho => ?_
          ·refine run 4 ?_
           cases ho; exact s_nil (lf [] [0])
          ·refine run 4 ?_
           cases ho; exact s_nil (lf [] [0])
         ·show SRun ..
          refine wct ho (fun hq106 ho => ?_) fun hq106 ho => ?_
          ·refine run 6 ?_
           obtain ⟨y107,hy107,ho⟩ := bnd ho
           refine zi2 [0] [] (fun _ h => by cases h) (hrec hy107 v_0) rfl rfl (by decide) rfl (.n rfl) rfl rfl rfl .f (.c (.t rfl) (.c (.t rfl) (.c (.t rfl) (.c (.t rfl) (.c (.t rfl) .n))))) ?_
           intro g108
           show SOps ..
           cases ho; exact s_nil (zy1 [0] [] (.inl rfl) .n rfl (by decide))
          ·cases ho; exact zi9 (zy1 [0] [] (.inl rfl) .n rfl (by decide))
        ·refine run 2 ?_
         obtain ⟨c110,hc110,ho⟩ := bnd ho
         refine wcx c110 [0,3,4,18,24] (fun t => (.normal,fun _ => ([(213,vB (t))],[(v_0,.row (rInt .i64) (y95))]))) SEL ?_ fun _ => ?_
         ·have ho := hc110
          refine run 5 ?_
          refine wbr ho (fun hb111 ho => ?_) fun hb111 ho => ?_
          ·refine run 4 ?_
           cases ho; exact s_nil (lf [] [0])
          ·refine run 4 ?_
           cases ho; exact s_nil (lf [] [0])
         ·show SRun ..
          refine wct ho (fun hq112 ho => ?_) fun hq112 ho => ?_
          ·refine run 6 ?_
           obtain ⟨y113,hy113,ho⟩ := bnd ho
           refine zi2 [0] [] (fun _ h => by cases h) (hrec hy113 v_0) rfl rfl (by decide) rfl (.n rfl) rfl rfl rfl .f (.c (.t rfl) (.c (.t rfl) (.c (.t rfl) (.c (.t rfl) (.c (.t rfl) .n))))) ?_
           intro g114
           show SOps ..
           cases ho; exact s_nil (zy1 [0] [] (.inl rfl) .n rfl (by decide))
          ·cases ho; exact zi9 (zy1 [0] [] (.inl rfl) .n rfl (by decide))
      ·refine run 3 ?_
       obtain ⟨c116,hc116,ho⟩ := bnd ho
       refine wcx c116 [0,1,3,4,18,20,24] (fun t => (.normal,fun _ => ([(199,vB (t))],[(v_0,.row (rInt .i64) (p_0))]))) SEL ?_ fun _ => ?_
       ·have ho := hc116
        refine run 5 ?_
        refine wbr ho (fun hb117 ho => ?_) fun hb117 ho => ?_
        ·refine run 4 ?_
         cases ho; exact s_nil (lf [] [0])
        ·refine run 4 ?_
         cases ho; exact s_nil (lf [] [0])
       ·show SRun ..
        refine wct ho (fun hq118 ho => ?_) fun hq118 ho => ?_
        ·refine run 6 ?_
         obtain ⟨y119,hy119,ho⟩ := bnd ho
         refine zi2 [0] [] (fun _ h => by cases h) (hrec hy119 v_0) rfl rfl (by decide) rfl (.n rfl) rfl rfl rfl .f (.c (.t rfl) (.c (.t rfl) (.c (.t rfl) (.c (.t rfl) (.c (.t rfl) .n))))) ?_
         intro g120
         show SOps ..
         refine run 2 ?_
         obtain ⟨c122,hc122,ho⟩ := bnd ho
         refine wcx c122 [0,3,4,18,24] (fun t => (.normal,fun _ => ([(213,vB (t))],[(v_0,.row (rInt .i64) (y119))]))) SEL ?_ fun _ => ?_
         ·have ho := hc122
          refine run 5 ?_
          refine wbr ho (fun hb123 ho => ?_) fun hb123 ho => ?_
          ·refine run 4 ?_
           cases ho; exact s_nil (lf [] [0])
          ·refine run 4 ?_
           cases ho; exact s_nil (lf [] [0])
         ·show SRun ..
          refine wct ho (fun hq124 ho => ?_) fun hq124 ho => ?_
          ·refine run 6 ?_
           obtain ⟨y125,hy125,ho⟩ := bnd ho
           refine zi2 [0] [] (fun _ h => by cases h) (hrec hy125 v_0) rfl rfl (by decide) rfl (.n rfl) rfl rfl rfl .f (.c (.t rfl) (.c (.t rfl) (.c (.t rfl) (.c (.t rfl) (.c (.t rfl) .n))))) ?_
           intro g126
           show SOps ..
           cases ho; exact s_nil (zy1 [0] [] (.inl rfl) .n rfl (by decide))
          ·cases ho; exact zi9 (zy1 [0] [] (.inl rfl) .n rfl (by decide))
        ·refine run 2 ?_
         obtain ⟨c128,hc128,ho⟩ := bnd ho
         refine wcx c128 [0,3,4,18,24] (fun t => (.normal,fun _ => ([(213,vB (t))],[(v_0,.row (rInt .i64) (p_0))]))) SEL ?_ fun _ => ?_
         ·have ho := hc128
          refine run 5 ?_
          refine wbr ho (fun hb129 ho => ?_) fun hb129 ho => ?_
          ·refine run 4 ?_
           cases ho; exact s_nil (lf [] [0])
          ·refine run 4 ?_
           cases ho; exact s_nil (lf [] [0])
         ·show SRun ..
          refine wct ho (fun hq130 ho => ?_) fun hq130 ho => ?_
          ·refine run 6 ?_
           obtain ⟨y131,hy131,ho⟩ := bnd ho
           refine zi2 [0] [] (fun _ h => by cases h) (hrec hy131 v_0) rfl rfl (by decide) rfl (.n rfl) rfl rfl rfl .f (.c (.t rfl) (.c (.t rfl) (.c (.t rfl) (.c (.t rfl) (.c (.t rfl) .n))))) ?_
           intro g132
           show SOps ..
           cases ho; exact s_nil (zy1 [0] [] (.inl rfl) .n rfl (by decide))
          ·cases ho; exact zi9 (zy1 [0] [] (.inl rfl) .n rfl (by decide))
   ·refine run 17 ?_
    obtain ⟨t147,ht147,ho⟩ := bnd ho
    refine wlp ht147 [0,1,2,3,4,18,19,22] (fun s g => ([(20,vI (s.1)),(21,vI (s.2))],[(v_0,.row (rInt .i64) (p_0))])) (fun b => (.exit 8,fun g => ([(20,vI (b))],[(v_0,.row (rInt .i64) (p_0))]))) [] SEL (pk [0]) NE (fun s139 g140 _ ho => ?_) fun g148 => ?_
    ·refine run 7 ?_
     refine wct ho (fun hq141 ho => ?_) fun hq141 ho => ?_
     ·refine run 8 ?_
      obtain ⟨x142,hx142,ho⟩ := bnd ho
      refine run 5 ?_
      refine zz4 [6,10] (by kernel_rfl) ?_
      refine run 5 ?_
      obtain ⟨x143,hx143,ho⟩ := bnd ho
      refine run 4 ?_
      obtain ⟨x144,hx144,ho⟩ := bnd ho
      refine run 2 ?_
      obtain ⟨y145,hy145,ho⟩ := bnd ho
      refine zn4 (X := (Int × Int)) (Y := (Int)) (f := p_4) (x := (x143,x144)) hy145 (.n rfl) rfl rfl rfl (.t rfl) (.c (.t rfl) (.c (.t rfl) .n)) ?_
      show SOps ..
      refine run 3 ?_
      refine wct ho (fun hq146 ho => ?_) fun hq146 ho => ?_
      ·refine run 4 ?_
       cases ho; exact s_nil (lf [] [0])
      ·refine run 3 ?_
       cases ho; exact s_nil (lf [] [0])
     ·cases ho; exact zf1 (lf [] [0])
    ·show SRun ..
     refine run 9 ?_
     obtain ⟨c150,hc150,ho⟩ := bnd ho
     refine wcx c150 [0,1,2,3,4,18,20,24] (fun t => (.normal,fun _ => ([(185,vB (t))],[(v_0,.row (rInt .i64) (p_0))]))) SEL ?_ fun _ => ?_
     ·have ho := hc150
      refine run 5 ?_
      refine wbr ho (fun hb151 ho => ?_) fun hb151 ho => ?_
      ·refine run 4 ?_
       cases ho; exact s_nil (lf [] [0])
      ·refine run 4 ?_
       cases ho; exact s_nil (lf [] [0])
     ·show SRun ..
      refine wct ho (fun hq152 ho => ?_) fun hq152 ho => ?_
      ·refine run 6 ?_
       obtain ⟨y153,hy153,ho⟩ := bnd ho
       refine zi2 [0] [] (fun _ h => by cases h) (zi4 hy153 v_0) rfl rfl (by decide) rfl (.n rfl) rfl rfl rfl .f (.c (.t rfl) (.c (.t rfl) (.c (.t rfl) (.c (.t rfl) (.c (.t rfl) .n))))) ?_
       intro g154
       show SOps ..
       refine run 3 ?_
       obtain ⟨c156,hc156,ho⟩ := bnd ho
       refine wcx c156 [0,1,3,4,18,20,24] (fun t => (.normal,fun _ => ([(199,vB (t))],[(v_0,.row (rInt .i64) (y153))]))) SEL ?_ fun _ => ?_
       ·have ho := hc156
        refine run 5 ?_
        refine wbr ho (fun hb157 ho => ?_) fun hb157 ho => ?_
        ·refine run 4 ?_
         cases ho; exact s_nil (lf [] [0])
        ·refine run 4 ?_
         cases ho; exact s_nil (lf [] [0])
       ·show SRun ..
        refine wct ho (fun hq158 ho => ?_) fun hq158 ho => ?_
        ·refine run 6 ?_
         obtain ⟨y159,hy159,ho⟩ := bnd ho
         refine zi2 [0] [] (fun _ h => by cases h) (hrec hy159 v_0) rfl rfl (by decide) rfl (.n rfl) rfl rfl rfl .f (.c (.t rfl) (.c (.t rfl) (.c (.t rfl) (.c (.t rfl) (.c (.t rfl) .n))))) ?_
         intro g160
         show SOps ..
         refine run 2 ?_
         obtain ⟨c162,hc162,ho⟩ := bnd ho
         refine wcx c162 [0,3,4,18,24] (fun t => (.normal,fun _ => ([(213,vB (t))],[(v_0,.row (rInt .i64) (y159))]))) SEL ?_ fun _ => ?_
         ·have ho := hc162
          refine run 5 ?_
          refine wbr ho (fun hb163 ho => ?_) fun hb163 ho => ?_
          ·refine run 4 ?_
           cases ho; exact s_nil (lf [] [0])
          ·refine run 4 ?_
           cases ho; exact s_nil (lf [] [0])
         ·show SRun ..
          refine wct ho (fun hq164 ho => ?_) fun hq164 ho => ?_
          ·refine run 6 ?_
           obtain ⟨y165,hy165,ho⟩ := bnd ho
           refine zi2 [0] [] (fun _ h => by cases h) (hrec hy165 v_0) rfl rfl (by decide) rfl (.n rfl) rfl rfl rfl .f (.c (.t rfl) (.c (.t rfl) (.c (.t rfl) (.c (.t rfl) (.c (.t rfl) .n))))) ?_
           intro g166
           show SOps ..
           cases ho; exact s_nil (zy1 [0] [] (.inl rfl) .n rfl (by decide))
          ·cases ho; exact zi9 (zy1 [0] [] (.inl rfl) .n rfl (by decide))
        ·refine run 2 ?_
         obtain ⟨c168,hc168,ho⟩ := bnd ho
         refine wcx c168 [0,3,4,18,24] (fun t => (.normal,fun _ => ([(213,vB (t))],[(v_0,.row (rInt .i64) (y153))]))) SEL ?_ fun _ => ?_
         ·have ho := hc168
          refine run 5 ?_
          refine wbr ho (fun hb169 ho => ?_) fun hb169 ho => ?_
          ·refine run 4 ?_
           cases ho; exact s_nil (lf [] [0])
          ·refine run 4 ?_
           cases ho; exact s_nil (lf [] [0])
         ·show SRun ..
          refine wct ho (fun hq170 ho => ?_) fun hq170 ho => ?_
          ·refine run 6 ?_
           obtain ⟨y171,hy171,ho⟩ := bnd ho
           refine zi2 [0] [] (fun _ h => by cases h) (hrec hy171 v_0) rfl rfl (by decide) rfl (.n rfl) rfl rfl rfl .f (.c (.t rfl) (.c (.t rfl) (.c (.t rfl) (.c (.t rfl) (.c (.t rfl) .n))))) ?_
           intro g172
           show SOps ..
           cases ho; exact s_nil (zy1 [0] [] (.inl rfl) .n rfl (by decide))
          ·cases ho; exact zi9 (zy1 [0] [] (.inl rfl) .n rfl (by decide))
      ·refine run 3 ?_
       obtain ⟨c174,hc174,ho⟩ := bnd ho
       refine wcx c174 [0,1,3,4,18,20,24] (fun t => (.normal,fun _ => ([(199,vB (t))],[(v_0,.row (rInt .i64) (p_0))]))) SEL ?_ fun _ => ?_
       ·have ho := hc174
        refine run 5 ?_
        refine wbr ho (fun hb175 ho => ?_) fun hb175 ho => ?_
        ·refine run 4 ?_
         cases ho; exact s_nil (lf [] [0])
        ·refine run 4 ?_
         cases ho; exact s_nil (lf [] [0])
       ·show SRun ..
        refine wct ho (fun hq176 ho => ?_) fun hq176 ho => ?_
        ·refine run 6 ?_
         obtain ⟨y177,hy177,ho⟩ := bnd ho
         refine zi2 [0] [] (fun _ h => by cases h) (hrec hy177 v_0) rfl rfl (by decide) rfl (.n rfl) rfl rfl rfl .f (.c (.t rfl) (.c (.t rfl) (.c (.t rfl) (.c (.t rfl) (.c (.t rfl) .n))))) ?_
         intro g178
         show SOps ..
         refine run 2 ?_
         obtain ⟨c180,hc180,ho⟩ := bnd ho
         refine wcx c180 [0,3,4,18,24] (fun t => (.normal,fun _ => ([(213,vB (t))],[(v_0,.row (rInt .i64) (y177))]))) SEL ?_ fun _ => ?_
         ·have ho := hc180
          refine run 5 ?_
          refine wbr ho (fun hb181 ho => ?_) fun hb181 ho => ?_
          ·refine run 4 ?_
           cases ho; exact s_nil (lf [] [0])
          ·refine run 4 ?_
           cases ho; exact s_nil (lf [] [0])
         ·show SRun ..
          refine wct ho (fun hq182 ho => ?_) fun hq182 ho => ?_
          ·refine run 6 ?_
           obtain ⟨y183,hy183,ho⟩ := bnd ho
           refine zi2 [0] [] (fun _ h => by cases h) (hrec hy183 v_0) rfl rfl (by decide) rfl (.n rfl) rfl rfl rfl .f (.c (.t rfl) (.c (.t rfl) (.c (.t rfl) (.c (.t rfl) (.c (.t rfl) .n))))) ?_
           intro g184
           show SOps ..
           cases ho; exact s_nil (zy1 [0] [] (.inl rfl) .n rfl (by decide))
          ·cases ho; exact zi9 (zy1 [0] [] (.inl rfl) .n rfl (by decide))
        ·refine run 2 ?_
         obtain ⟨c186,hc186,ho⟩ := bnd ho
         refine wcx c186 [0,3,4,18,24] (fun t => (.normal,fun _ => ([(213,vB (t))],[(v_0,.row (rInt .i64) (p_0))]))) SEL ?_ fun _ => ?_
         ·have ho := hc186
          refine run 5 ?_
          refine wbr ho (fun hb187 ho => ?_) fun hb187 ho => ?_
          ·refine run 4 ?_
           cases ho; exact s_nil (lf [] [0])
          ·refine run 4 ?_
           cases ho; exact s_nil (lf [] [0])
         ·show SRun ..
          refine wct ho (fun hq188 ho => ?_) fun hq188 ho => ?_
          ·refine run 6 ?_
           obtain ⟨y189,hy189,ho⟩ := bnd ho
           refine zi2 [0] [] (fun _ h => by cases h) (hrec hy189 v_0) rfl rfl (by decide) rfl (.n rfl) rfl rfl rfl .f (.c (.t rfl) (.c (.t rfl) (.c (.t rfl) (.c (.t rfl) (.c (.t rfl) .n))))) ?_
           intro g190
           show SOps ..
           cases ho; exact s_nil (zy1 [0] [] (.inl rfl) .n rfl (by decide))
          ·cases ho; exact zi9 (zy1 [0] [] (.inl rfl) .n rfl (by decide))
theorem zd4   {k:Nat} {p_0:(List Int)} {p_1:Int} {p_2:Int} {p_3:Int} {p_4:((Int × Int) → Option (Int))} {out:((List Int))} (ho:zr2 k p_0 p_1 p_2 p_3 p_4 = some out) (v_0:AVal):FunM ktab 86 [.raw v_0,.val (rInt .i64) p_1,.val (rInt .i64) p_2,.val (rInt .i64) p_3,.val (rFn ktab (Int × Int) (Int) (fun x => [.val (rInt .i64) (x.1),.val (rInt .i64) (x.2)]) (fun y => [.val (rInt .i64) (y)])) p_4] [(v_0,.row (rInt .i64) (p_0))] [] (fun γ => [(v_0,.row (rInt .i64) (out))]) := by
 induction k generalizing p_0 p_1 p_2 p_3 p_4 out v_0 with
 | zero => cases ho
 | succ k ih => exact zc5 (fun h v_0 => ih h v_0) ho v_0
theorem zh6   {data_0:(List Int)} {n_1:Int} {cmp_2:((Int × Int) → Option (Int))} {out:((List Int))} (ho:ze3 data_0 n_1 cmp_2 = some out) (v_0:AVal):FunM ktab 55 [.raw v_0,.val (rInt .i64) n_1,.val (rFn ktab (Int × Int) (Int) (fun x => [.val (rInt .i64) (x.1),.val (rInt .i64) (x.2)]) (fun y => [.val (rInt .i64) (y)])) cmp_2] [(v_0,.row (rInt .i64) (data_0))] [] (fun γ => [(v_0,.row (rInt .i64) (out))]) := by
 refine ze6 (F := Try.f55) (by rfl) (by rfl) (by rfl) (fun C => ?_)
 delta ze3 at ho
 refine run 12 ?_
 obtain ⟨t12,ht12,ho⟩ := bnd ho
 refine wlp ht12 [0,1,2,6] (fun s g => ([(7,vI (s.1)),(8,vI (s.2.1))],[(v_0,.row (rInt .i64) (s.2.2))])) (fun b => (.exit 0,fun g => ([(7,vI (b.1))],[(v_0,.row (rInt .i64) (b.2))]))) [] SEL (pk [0]) NE (fun s7 g8 _ ho => ?_) fun g13 => ?_
 ·refine run 7 ?_
  refine wct ho (fun hq9 ho => ?_) fun hq9 ho => ?_
  ·refine run 8 ?_
   obtain ⟨y10,hy10,ho⟩ := bnd ho
   refine zi2 [0] [] (fun _ h => by cases h) (zo3 hy10 v_0) rfl rfl (by decide) rfl (.n rfl) rfl rfl rfl .f (.c (.t rfl) (.c (.t rfl) (.c (.t rfl) (.c (.t rfl) .n)))) ?_
   intro g11
   show SOps ..
   refine run 11 ?_
   cases ho; exact s_nil (lf [] [0])
  ·cases ho; exact zf1 (lf [] [0])
 ·show SRun ..
  refine run 6 ?_
  obtain ⟨y14,hy14,ho⟩ := bnd ho
  refine zi2 [0] [] (fun _ h => by cases h) (zo3 hy14 v_0) rfl rfl (by decide) rfl (.n rfl) rfl rfl rfl .f (.c (.t rfl) (.c (.t rfl) (.c (.t rfl) (.c (.t rfl) .n)))) ?_
  intro g15
  show SOps ..
  refine run 2 ?_
  obtain ⟨t69,ht69,ho⟩ := bnd ho
  refine wlp ht69 [0,1,2] (fun s g => ([(6,vI (s.1))],[(v_0,.row (rInt .i64) (s.2))])) (fun b => (.exit 2,fun g => ([],[(v_0,.row (rInt .i64) (b))]))) [] SEL (pk [0]) NE (fun s50 g51 _ ho => ?_) fun g70 => ?_
  ·refine run 7 ?_
   refine wct ho (fun hq52 ho => ?_) fun hq52 ho => ?_
   ·refine run 11 ?_
    obtain ⟨t64,ht64,ho⟩ := bnd ho
    refine wlp ht64 [0,1,2,6] (fun s g => ([(7,vI (s.1)),(8,vI (s.2.1))],[(v_0,.row (rInt .i64) (s.2.2))])) (fun b => (.exit 4,fun g => ([(7,vI (b.1))],[(v_0,.row (rInt .i64) (b.2))]))) [] SEL (pk [0]) NE (fun s59 g60 _ ho => ?_) fun g65 => ?_
    ·refine run 7 ?_
     refine wct ho (fun hq61 ho => ?_) fun hq61 ho => ?_
     ·refine run 11 ?_
      obtain ⟨y62,hy62,ho⟩ := bnd ho
      refine zi2 [0] [] (fun _ h => by cases h) (zd4 hy62 v_0) rfl rfl (by decide) rfl (.n rfl) rfl rfl rfl .f (.c (.t rfl) (.c (.t rfl) (.c (.t rfl) (.c (.t rfl) (.c (.t rfl) .n))))) ?_
      intro g63
      show SOps ..
      refine run 12 ?_
      cases ho; exact s_nil (lf [] [0])
     ·cases ho; exact zf1 (lf [] [0])
    ·show SRun ..
     refine run 14 ?_
     refine wct ho (fun hq66 ho => ?_) fun hq66 ho => ?_
     ·refine run 6 ?_
      obtain ⟨y67,hy67,ho⟩ := bnd ho
      refine zi2 [0] [] (fun _ h => by cases h) (zd4 hy67 v_0) rfl rfl (by decide) rfl (.n rfl) rfl rfl rfl .f (.c (.t rfl) (.c (.t rfl) (.c (.t rfl) (.c (.t rfl) (.c (.t rfl) .n))))) ?_
      intro g68
      show SOps ..
      refine run 5 ?_
      cases ho; exact s_nil (lf [] [0])
     ·refine run 5 ?_
      cases ho; exact s_nil (lf [] [0])
   ·cases ho; exact zf1 (lf [] [0])
  ·cases ho; exact id (zy1 [0] [] (.inl rfl) .n rfl (by decide))
theorem zv3   {x_0:(List Int)} {cmp_1:((Int × Int) → Option (Int))} {out:((List Int))} (ho:zk1 x_0 cmp_1 = some out) (v_0:AVal):FunM ktab 21 [.raw v_0,.val (rFn ktab (Int × Int) (Int) (fun x => [.val (rInt .i64) (x.1),.val (rInt .i64) (x.2)]) (fun y => [.val (rInt .i64) (y)])) cmp_1] [(v_0,.row (rInt .i64) (x_0))] [] (fun γ => [(v_0,.row (rInt .i64) (out))]) := by
 refine ze6 (F := Try.f21) (by rfl) (by rfl) (by rfl) (fun C => ?_)
 delta zk1 at ho
 refine run 5 ?_
 obtain ⟨y1,hy1,ho⟩ := bnd ho
 refine zi2 [0] [] (fun _ h => by cases h) (zh6 hy1 v_0) rfl rfl (by decide) rfl (.n rfl) rfl rfl rfl .f (.c (.t rfl) (.c (.t rfl) (.c (.t rfl) .n))) ?_
 intro g2
 show SOps ..
 cases ho; exact s_nil (zy1 [0] [] (.inl rfl) .n rfl (by decide))
instance i22 {a_0 b_1 p_2}:FI ktab 22 (zj4 a_0 b_1 p_2) [vI a_0,vI b_1,.val (rPtr (rFn ktab (Int) (Int) (fun x => [.val (rInt .i64) (x)]) (fun y => [.val (rInt .i64) (y)]))) p_2] (fun out => [.val (rInt .i64) (out)]) := ⟨fun out ho => by
 delta zj4 at ho
 refine fn fun _ _ => ?_
 refine run 8 ?_
 obtain ⟨y1,hy1,ho⟩ := bnd ho
 refine zn4 (X := (Int)) (Y := (Int)) (f := p_2) (x := a_0) hy1 (.n rfl) rfl rfl rfl (.t rfl) (.c (.t rfl) .n) ?_
 show SOps ..
 refine run 2 ?_
 obtain ⟨y2,hy2,ho⟩ := bnd ho
 refine zn4 (X := (Int)) (Y := (Int)) (f := p_2) (x := b_1) hy2 (.n rfl) rfl rfl rfl (.t rfl) (.c (.t rfl) .n) ?_
 exact w ho⟩
instance i23 {a_0 b_1 p_2}:FI ktab 23 (zk4 a_0 b_1 p_2) [vI a_0,vI b_1,.val (rPtr (rFn ktab (Int) (Int) (fun x => [.val (rInt .i64) (x)]) (fun y => [.val (rInt .i64) (y)]))) p_2] (fun out => [.val (rInt .i64) (out)]) := ⟨fun out ho => by
 delta zk4 at ho
 refine fn fun _ _ => ?_
 refine run 8 ?_
 obtain ⟨y1,hy1,ho⟩ := bnd ho
 refine zn4 (X := (Int)) (Y := (Int)) (f := p_2) (x := a_0) hy1 (.n rfl) rfl rfl rfl (.t rfl) (.c (.t rfl) .n) ?_
 show SOps ..
 refine run 2 ?_
 obtain ⟨y2,hy2,ho⟩ := bnd ho
 refine zn4 (X := (Int)) (Y := (Int)) (f := p_2) (x := b_1) hy2 (.n rfl) rfl rfl rfl (.t rfl) (.c (.t rfl) .n) ?_
 exact w ho⟩
instance i7 {p_0 p_1 p_2 p_3 p_4 p_5}:FI ktab 7 (zb6 p_0 p_1 p_2 p_3 p_4 p_5) [.val (rSlice rTask) p_0,.val rYard p_1,.val (rSlice (rSlice (rInt .i64))) p_2,.val (rSlice (rInt .i64)) p_3,.val (rSlice (rInt .i64)) p_4,vI p_5] (fun out => [.row rStableCar (out.1),.row rStableLeave (out.2.1),.row (rInt .i64) (out.2.2.1),.row (rInt .i64) (out.2.2.2.1),.val (rInt .i64) (out.2.2.2.2)]) := ⟨fun out ho => by
 delta zb6 at ho
 refine fn fun _ _ => ?_
 refine run 6 ?_
 refine s_st (zm rStableCar) ?_
 refine zx (.n rfl) rfl rfl .nilr ?_
 refine s_st (zm rStableLeave) ?_
 refine zx (.n rfl) rfl rfl .nilr ?_
 refine s_st (zm (rInt .i64)) ?_
 refine zx (.n rfl) rfl rfl .nilr ?_
 refine s_st (zm (rInt .i64)) ?_
 refine zx (.n rfl) rfl rfl .nilr ?_
 refine run 9 ?_
 refine xcl ho ?_
 intro y1 hy1 ho v2
 show SOps ..
 refine run 7 ?_
 obtain ⟨c7,hc7,ho⟩ := bnd ho
 refine wcx c7 [3,4,6,8,11] (fun t => (.normal,fun _ => ([(58,vB (t))],[(v2,.row (rInt .i64) (y1.1)),(.nilslice,.row (rInt .i64) ([])),(.nilslice,.row (rInt .i64) ([])),(.nilslice,.row rStableLeave ([])),(.nilslice,.row rStableCar ([]))]))) SEL ?_ fun _ => ?_
 ·have ho := hc7
  refine run 4 ?_
  refine wbr ho (fun hb8 ho => ?_) fun hb8 ho => ?_
  ·refine run 18 ?_
   cases ho; exact s_nil (lf [] [0,1,2,3,4])
  ·refine run 7 ?_
   refine wbr ho (fun hb9 ho => ?_) fun hb9 ho => ?_
   ·refine run 11 ?_
    cases ho; exact s_nil (lf [] [0,1,2,3,4])
   ·refine run 7 ?_
    refine wbr ho (fun hb10 ho => ?_) fun hb10 ho => ?_
    ·refine run 4 ?_
     cases ho; exact s_nil (lf [] [0,1,2,3,4])
    ·refine run 1 ?_
     refine xcl ho ?_
     intro y11 hy11 ho
     show SOps ..
     refine run 2 ?_
     cases ho; exact s_nil (lf [] [0,1,2,3,4])
 ·show SRun ..
  refine wct ho (fun hq12 ho => ?_) fun hq12 ho => ?_
  ·refine run 2 ?_
   refine s_st (zm rStableCar) ?_
   refine zx (.n rfl) rfl rfl .nilr ?_
   refine s_st (zm rStableLeave) ?_
   refine zx (.n rfl) rfl rfl .nilr ?_
   refine s_st (zm (rInt .i64)) ?_
   refine zx (.n rfl) rfl rfl .nilr ?_
   refine s_st (zm (rInt .i64)) ?_
   refine zx (.n rfl) rfl rfl .nilr ?_
   refine run 2 ?_
   cases ho; exact r_ret (zg2 (.inr rfl) (.r 3 rfl rfl (.r 2 rfl rfl (.r 1 rfl rfl (.r 0 rfl rfl (.v rfl .n))))) (by decide))
  ·refine run 9 ?_
   obtain ⟨t41,ht41,ho⟩ := bnd ho
   refine wlp ht41 [3,4,6,8,11,60] (fun s g => ([(61,vI (s))],[])) (altX (fun b => (.exit 0,fun g => ([],[]))) (fun b => (.ret,fun g => ([(12,.raw ((gh g 0))),(13,.raw ((gh g 1))),(14,.raw ((gh g 2))),(15,.raw ((gh g 3))),(16,vI (b.2.2.2.2))],[((gh g 0),.row rStableCar (b.1)),((gh g 1),.row rStableLeave (b.2.1)),((gh g 2),.row (rInt .i64) (b.2.2.1)),((gh g 3),.row (rInt .i64) (b.2.2.2.1))])))) [] SEL (pk []) NE (fun s26 g27 _ ho => ?_) fun g42 => ?_
   ·refine run 5 ?_
    refine wct ho (fun hq28 ho => ?_) fun hq28 ho => ?_
    ·refine run 12 ?_
     obtain ⟨x34,hx34,ho⟩ := bnd ho
     refine run 2 ?_
     refine xcl ho ?_
     intro y35 hy35 ho
     show SOps ..
     refine run 2 ?_
     refine wbr ho (fun hb36 ho => ?_) fun hb36 ho => ?_
     ·refine run 8 ?_
      refine zw1 (.t rfl) (fun _ => ?_) (fun hq => by cases hq)
      refine run 2 ?_
      refine s_st (zm rStableCar) ?_
      refine zx (.n rfl) rfl rfl .nilr ?_
      refine s_st (zm rStableLeave) ?_
      refine zx (.n rfl) rfl rfl .nilr ?_
      refine s_st (zm (rInt .i64)) ?_
      refine zx (.n rfl) rfl rfl .nilr ?_
      refine s_st (zm (rInt .i64)) ?_
      refine zx (.n rfl) rfl rfl .nilr ?_
      refine run 2 ?_
      cases ho; exact r_ret (lf [.nilslice,.nilslice,.nilslice,.nilslice] [3,2,1,0])
     ·refine run 2 ?_
      obtain ⟨x38,hx38,ho⟩ := bnd ho
      refine run 2 ?_
      refine xcl ho ?_
      intro y39 hy39 ho
      show SOps ..
      refine run 3 ?_
      refine wct ho (fun hq40 ho => ?_) fun hq40 ho => ?_
      ·refine run 2 ?_
       refine s_st (zm rStableCar) ?_
       refine zx (.n rfl) rfl rfl .nilr ?_
       refine s_st (zm rStableLeave) ?_
       refine zx (.n rfl) rfl rfl .nilr ?_
       refine s_st (zm (rInt .i64)) ?_
       refine zx (.n rfl) rfl rfl .nilr ?_
       refine s_st (zm (rInt .i64)) ?_
       refine zx (.n rfl) rfl rfl .nilr ?_
       refine run 2 ?_
       cases ho; exact r_ret (lf [.nilslice,.nilslice,.nilslice,.nilslice] [3,2,1,0])
      ·exact w ho
    ·cases ho; exact zf1 (lf [] [])
   ·rcases t41 with b43 | b44
    ·have ho := alt_l ho
     show SRun ..
     refine run 7 ?_
     refine wct ho (fun hq45 ho => ?_) fun hq45 ho => ?_
     ·refine run 2 ?_
      refine s_st (zm rStableCar) ?_
      refine zx (.n rfl) rfl rfl .nilr ?_
      refine s_st (zm rStableLeave) ?_
      refine zx (.n rfl) rfl rfl .nilr ?_
      refine s_st (zm (rInt .i64)) ?_
      refine zx (.n rfl) rfl rfl .nilr ?_
      refine s_st (zm (rInt .i64)) ?_
      refine zx (.n rfl) rfl rfl .nilr ?_
      refine run 2 ?_
      cases ho; exact r_ret (zg2 (.inr rfl) (.r 3 rfl rfl (.r 2 rfl rfl (.r 1 rfl rfl (.r 0 rfl rfl (.v rfl .n))))) (by decide))
     ·refine run 3 ?_
      refine zj6 (X := (Int)) (Y := (Int)) (fun x => [.val (rInt .i64) (x)]) (fun y => [.val (rInt .i64) (y)]) (f := (fun x => zs2 x p_0 p_2)) (fun x y hf => i19.ok _ hf) rfl (.n rfl) rfl rfl .n (.c (.t rfl) (.c (.t rfl) .n)) ?_
      refine xal (zv := .nilfunc) (es := [.raw (.nilfunc)]) (by kernel_rfl) fun b46 => ?_
      refine run 1 ?_
      refine s_st (zn1 (R := (rFn ktab (Int) (Int) (fun x => [.val (rInt .i64) (x)]) (fun y => [.val (rInt .i64) (y)]))) (a := (fun x => zs2 x p_0 p_2)) 0 [20] (zd rfl) rfl rfl ⟨rfl,trivial⟩) ?_
      refine run 3 ?_
      refine zj6 (X := (Int)) (Y := (Int)) (fun x => [.val (rInt .i64) (x)]) (fun y => [.val (rInt .i64) (y)]) (f := (fun x => zc2 x p_0 p_2 p_5)) (fun x y hf => i20.ok _ hf) rfl (.n rfl) rfl rfl .n (.c (.t rfl) (.c (.t rfl) (.c (.t rfl) .n))) ?_
      refine xal (zv := .nilfunc) (es := [.raw (.nilfunc)]) (by kernel_rfl) fun b47 => ?_
      refine run 1 ?_
      refine s_st (zn1 (R := (rFn ktab (Int) (Int) (fun x => [.val (rInt .i64) (x)]) (fun y => [.val (rInt .i64) (y)]))) (a := (fun x => zc2 x p_0 p_2 p_5)) 0 [21] (zd rfl) rfl rfl ⟨rfl,trivial⟩) ?_
      refine run 3 ?_
      refine s_st (zm (rInt .i64)) ?_
      refine zx (.n rfl) rfl rfl .nilr ?_
      refine s_st (zm (rInt .i64)) ?_
      refine zx (.n rfl) rfl rfl .nilr ?_
      refine run 9 ?_
      obtain ⟨t60,ht60,ho⟩ := bnd ho
      refine wlp ht60 [3,4,8,20,21,85] (fun s g => ([(22,.raw ((gh g 0))),(23,.raw ((gh g 1))),(86,vI (s.2.2))],[((gh g 0),.row (rInt .i64) (s.1)),((gh g 1),.row (rInt .i64) (s.2.1))])) (fun b => (.exit 2,fun g => ([(22,.raw ((gh g 0))),(23,.raw ((gh g 1)))],[((gh g 0),.row (rInt .i64) (b.1)),((gh g 1),.row (rInt .i64) (b.2))]))) [.nilslice,.nilslice] SEL (pk [1,0]) NE (fun s53 g54 _ ho => ?_) fun g61 => ?_
      ·refine run 5 ?_
       refine wct ho (fun hq55 ho => ?_) fun hq55 ho => ?_
       ·refine run 12 ?_
        obtain ⟨x56,hx56,ho⟩ := bnd ho
        refine xap fun v57 => ?_
        refine run 3 ?_
        obtain ⟨x58,hx58,ho⟩ := bnd ho
        refine xap fun v59 => ?_
        refine run 6 ?_
        cases ho; exact s_nil (lf [v57,v59] [1,0])
       ·cases ho; exact zf1 (lf [(gh g54 0),(gh g54 1)] [0,1])
      ·show SRun ..
       refine run 3 ?_
       refine zj6 (X := (Int × Int)) (Y := (Int)) (fun x => [.val (rInt .i64) (x.1),.val (rInt .i64) (x.2)]) (fun y => [.val (rInt .i64) (y)]) (f := (fun x => zj4 x.1 x.2 ((fun x => zs2 x p_0 p_2)))) (fun x y hf => i22.ok _ hf) rfl (.n rfl) rfl rfl .n (.c (.t rfl) .n) ?_
       obtain ⟨y62,hy62,ho⟩ := bnd ho
       refine zi2 [0] [1] (fun _ h => by cases h) (zv3 hy62 ((gh g61 0))) rfl rfl (by decide) rfl (.n rfl) rfl rfl rfl .f (.c (.t rfl) (.c (.t rfl) .n)) ?_
       intro g63
       show SOps ..
       refine run 4 ?_
       refine zj6 (X := (Int × Int)) (Y := (Int)) (fun x => [.val (rInt .i64) (x.1),.val (rInt .i64) (x.2)]) (fun y => [.val (rInt .i64) (y)]) (f := (fun x => zk4 x.1 x.2 ((fun x => zc2 x p_0 p_2 p_5)))) (fun x y hf => i23.ok _ hf) rfl (.n rfl) rfl rfl .n (.c (.t rfl) .n) ?_
       obtain ⟨y64,hy64,ho⟩ := bnd ho
       refine zi2 [1] [0] (fun _ h => by cases h) (zv3 hy64 ((gh g61 1))) rfl rfl (by decide) rfl (.n rfl) rfl rfl rfl .f (.c (.t rfl) (.c (.t rfl) .n)) ?_
       intro g65
       show SOps ..
       refine run 3 ?_
       refine s_st (zm rStableCar) ?_
       refine zx (.n rfl) rfl rfl .nilr ?_
       refine run 3 ?_
       refine s_st (zm rStableLeave) ?_
       refine zx (.n rfl) rfl rfl .nilr ?_
       refine run 9 ?_
       obtain ⟨t96,ht96,ho⟩ := bnd ho
       refine wlp ht96 [3,4,20,21,22,23,105] (fun s g => ([(25,.raw ((gh g 0))),(26,.raw ((gh g 1))),(106,vI (s.2.2))],[((gh g61 1),.row (rInt .i64) (y64)),((gh g61 0),.row (rInt .i64) (y62)),((gh g 0),.row rStableCar (s.1)),((gh g 1),.row rStableLeave (s.2.1))])) (altX (fun b => (.exit 4,fun g => ([(25,.raw ((gh g 0))),(26,.raw ((gh g 1)))],[((gh g61 1),.row (rInt .i64) (y64)),((gh g61 0),.row (rInt .i64) (y62)),((gh g 0),.row rStableCar (b.1)),((gh g 1),.row rStableLeave (b.2))]))) (fun b => (.ret,fun g => ([(12,.raw ((gh g 0))),(13,.raw ((gh g 1))),(14,.raw ((gh g 2))),(15,.raw ((gh g 3))),(16,vI (b.2.2.2.2))],[((gh g 0),.row rStableCar (b.1)),((gh g 1),.row rStableLeave (b.2.1)),((gh g 2),.row (rInt .i64) (b.2.2.1)),((gh g 3),.row (rInt .i64) (b.2.2.2.1))])))) [.nilslice,.nilslice] SEL (pk [2,3,1,0]) NE (fun s80 g81 _ ho => ?_) fun g97 => ?_
       ·refine run 5 ?_
        refine wct ho (fun hq82 ho => ?_) fun hq82 ho => ?_
        ·refine run 9 ?_
         refine zz4 [3,7] (by kernel_rfl) ?_
         refine run 2 ?_
         obtain ⟨x83,hx83,ho⟩ := bnd ho
         refine run 4 ?_
         obtain ⟨x84,hx84,ho⟩ := bnd ho
         refine run 10 ?_
         obtain ⟨y85,hy85,ho⟩ := bnd ho
         refine zn4 (X := (Int)) (Y := (Int)) (f := (fun x => zc2 x p_0 p_2 p_5)) (x := x84) hy85 (.n rfl) rfl rfl rfl (.t rfl) (.c (.t rfl) .n) ?_
         show SOps ..
         refine run 2 ?_
         refine wct ho (fun hq86 ho => ?_) fun hq86 ho => ?_
         ·refine run 2 ?_
          refine s_st (zm rStableCar) ?_
          refine zx (.n rfl) rfl rfl .nilr ?_
          refine s_st (zm rStableLeave) ?_
          refine zx (.n rfl) rfl rfl .nilr ?_
          refine s_st (zm (rInt .i64)) ?_
          refine zx (.n rfl) rfl rfl .nilr ?_
          refine s_st (zm (rInt .i64)) ?_
          refine zx (.n rfl) rfl rfl .nilr ?_
          refine run 2 ?_
          cases ho; exact r_ret (lf [.nilslice,.nilslice,.nilslice,.nilslice] [3,2,1,0])
         ·refine run 6 ?_
          obtain ⟨x87,hx87,ho⟩ := bnd ho
          refine run 4 ?_
          obtain ⟨x88,hx88,ho⟩ := bnd ho
          refine run 4 ?_
          obtain ⟨y89,hy89,ho⟩ := bnd ho
          refine zn4 (X := (Int)) (Y := (Int)) (f := (fun x => zs2 x p_0 p_2)) (x := x83) hy89 (.n rfl) rfl rfl rfl (.t rfl) (.c (.t rfl) .n) ?_
          show SOps ..
          refine run 2 ?_
          obtain ⟨x90,hx90,ho⟩ := bnd ho
          refine xap fun v91 => ?_
          refine run 6 ?_
          obtain ⟨x92,hx92,ho⟩ := bnd ho
          refine run 4 ?_
          obtain ⟨y93,hy93,ho⟩ := bnd ho
          refine zn4 (X := (Int)) (Y := (Int)) (f := (fun x => zc2 x p_0 p_2 p_5)) (x := x84) hy93 (.n rfl) rfl rfl rfl (.t rfl) (.c (.t rfl) .n) ?_
          show SOps ..
          refine run 2 ?_
          obtain ⟨x94,hx94,ho⟩ := bnd ho
          refine xap fun v95 => ?_
          refine run 5 ?_
          cases ho; exact s_nil (lf [v91,v95] [2,3,1,0])
        ·cases ho; exact zf1 (lf [(gh g81 0),(gh g81 1)] [0,1,2,3])
       ·rcases t96 with b98 | b99
        ·have ho := alt_l ho
         show SRun ..
         refine run 12 ?_
         cases ho; exact r_ret (zg2 (.inr rfl) (.r 2 rfl rfl (.r 3 rfl rfl (.r 1 rfl rfl (.r 0 rfl rfl (.v rfl .n))))) (by decide))
        ·have ho := alt_r ho
         cases ho; exact id (zg2 (.inr rfl) (.r 0 rfl rfl (.r 1 rfl rfl (.r 2 rfl rfl (.r 3 rfl rfl (.v rfl .n))))) (by decide))
    ·have ho := alt_r ho
     cases ho; exact id (zg2 (.inr rfl) (.r 0 rfl rfl (.r 1 rfl rfl (.r 2 rfl rfl (.r 3 rfl rfl (.v rfl .n))))) (by decide))⟩
instance i27 {x_0 low_1 high_2}:FI ktab 27 (zd2 x_0 low_1 high_2) [vI x_0,vI low_1,vI high_2] (fun out => [.val rBool (out)]) := ⟨fun out ho => by
 delta zd2 at ho
 refine fn fun _ _ => ?_
 refine run 5 ?_
 obtain ⟨c2,hc2,ho⟩ := bnd ho
 refine wcx c2 [] (fun t => (.normal,fun _ => ([(6,vB (t))],[]))) SEL ?_ fun _ => ?_
 ·exact w hc2
 ·show SRun ..
  cases ho; exact r_ret (zg2 (.inr rfl) (.v rfl .n) (by decide))⟩
instance i11 {p_0 p_1}:FI ktab 11 (zr4 p_0 p_1) [.val (rSlice rTask) p_0,.val rYard p_1] (fun out => [.val rBool (out)]) := ⟨fun out ho => by
 delta zr4 at ho
 refine fn fun _ _ => ?_
 refine run 14 ?_
 obtain ⟨c6,hc6,ho⟩ := bnd ho
 refine wcx c6 [0,3,5] (fun t => (.normal,fun _ => ([(33,vB (t))],[]))) SEL ?_ fun _ => ?_
 ·exact w hc6
 ·show SRun ..
  refine wct ho (fun hq12 ho => ?_) fun hq12 ho => ?_
  ·exact w ho
  ·refine run 7 ?_
   obtain ⟨t69,ht69,ho⟩ := bnd ho
   refine wlp ht69 [] (fun s g => ([(0,.val (rSlice rTask) (p_0)),(3,.val (rPtr rYard) (p_1)),(5,vI ((lenI p_1.2.2.1))),(6,vI (s))],[])) (altX (fun b => (.exit 0,fun g => ([(0,.val (rSlice rTask) (p_0)),(5,vI ((lenI p_1.2.2.1)))],[]))) (fun b => (.ret,fun g => ([(4,vB (b))],[])))) [] SEL (pk []) NE (fun s40 g41 _ ho => ?_) fun g70 => ?_
   ·refine run 7 ?_
    refine wct ho (fun hq42 ho => ?_) fun hq42 ho => ?_
    ·refine run 9 ?_
     obtain ⟨x47,hx47,ho⟩ := bnd ho
     refine run 6 ?_
     refine wbr ho (fun hb48 ho => ?_) fun hb48 ho => ?_
     ·refine run 11 ?_
      refine zw1 (.t rfl) (fun _ => ?_) (fun hq => by cases hq)
      exact w ho
     ·refine run 3 ?_
      obtain ⟨x50,hx50,ho⟩ := bnd ho
      refine run 3 ?_
      obtain ⟨x51,hx51,ho⟩ := bnd ho
      refine run 5 ?_
      refine wct ho (fun hq52 ho => ?_) fun hq52 ho => ?_
      ·exact w ho
      ·refine run 6 ?_
       obtain ⟨t65,ht65,ho⟩ := bnd ho
       refine wlp ht65 [0,3,5,6,48,49,50,51,52,53,54,55,56] (fun s g => ([(7,vI (s))],[])) (altX (fun b => (.exit 2,fun g => ([],[]))) (fun b => (.ret,fun g => ([(4,vB (b))],[])))) [] SEL (pk []) NE (fun s58 g59 _ ho => ?_) fun g66 => ?_
       ·exact w ho
       ·rcases t65 with b67 | b68
        ·have ho := alt_l ho
         show SRun ..
         exact w ho
        ·have ho := alt_r ho
         cases ho; exact id (lf [] [])
    ·cases ho; exact zf1 (lf [] [])
   ·rcases t69 with b71 | b72
    ·have ho := alt_l ho
     show SRun ..
     refine run 6 ?_
     obtain ⟨t131,ht131,ho⟩ := bnd ho
     refine wlp ht131 [0,5] (fun s g => ([(8,vI (s))],[])) (altX (fun b => (.exit 4,fun g => ([],[]))) (fun b => (.ret,fun g => ([(4,vB (b))],[])))) [] SEL (pk []) NE (fun s101 g102 _ ho => ?_) fun g132 => ?_
     ·refine run 8 ?_
      refine wct ho (fun hq103 ho => ?_) fun hq103 ho => ?_
      ·refine run 7 ?_
       obtain ⟨x104,hx104,ho⟩ := bnd ho
       refine run 2 ?_
       refine xal (zv := .agg [.int .i64 0,.int .i64 0,.int .i64 0,.int .i64 0]) (es := [vI (0),vI (0),vI (0),vI (0)]) (by kernel_rfl) fun b105 => ?_
       refine run 1 ?_
       refine s_st (zn1 (R := rTask) (a := x104) 0 [9] (zb (zd rfl) (zb (zd rfl) (zb (zd rfl) (zb (zd rfl) zt rfl) rfl) rfl) rfl) rfl rfl ⟨rfl,trivial⟩) ?_
       refine run 7 ?_
       refine xcl ho ?_
       intro y115 hy115 ho
       show SOps ..
       refine run 2 ?_
       refine wbr ho (fun hb116 ho => ?_) fun hb116 ho => ?_
       ·refine run 40 ?_
        refine zw1 (.t rfl) (fun _ => ?_) (fun hq => by cases hq)
        exact w ho
       ·refine run 4 ?_
        refine xcl ho ?_
        intro y118 hy118 ho
        show SOps ..
        refine run 3 ?_
        refine wbr ho (fun hb119 ho => ?_) fun hb119 ho => ?_
        ·refine run 32 ?_
         refine zw1 (.t rfl) (fun _ => ?_) (fun hq => by cases hq)
         exact w ho
        ·refine run 5 ?_
         refine wbr ho (fun hb121 ho => ?_) fun hb121 ho => ?_
         ·refine run 27 ?_
          refine zw1 (.t rfl) (fun _ => ?_) (fun hq => by cases hq)
          exact w ho
         ·refine run 7 ?_
          refine wbr ho (fun hb123 ho => ?_) fun hb123 ho => ?_
          ·refine run 20 ?_
           refine zw1 (.t rfl) (fun _ => ?_) (fun hq => by cases hq)
           exact w ho
          ·refine run 5 ?_
           refine wbr ho (fun hb125 ho => ?_) fun hb125 ho => ?_
           ·refine run 15 ?_
            refine zw1 (.t rfl) (fun _ => ?_) (fun hq => by cases hq)
            exact w ho
           ·refine run 3 ?_
            refine wbr ho (fun hb127 ho => ?_) fun hb127 ho => ?_
            ·exact w ho
            ·refine run 12 ?_
             refine zw1 (.t rfl) (fun hq => by cases hq) (fun _ => ?_)
             exact w ho
      ·cases ho; exact zf1 (lf [] [])
     ·rcases t131 with b133 | b134
      ·have ho := alt_l ho
       show SRun ..
       exact w ho
      ·have ho := alt_r ho
       cases ho; exact id (zg2 (.inr rfl) (.v rfl .n) (by decide))
    ·have ho := alt_r ho
     cases ho; exact id (zg2 (.inr rfl) (.v rfl .n) (by decide))⟩
theorem zi6  {rec:Int → Int → (List Bool) → (List Bool) → za1 → (List Int) → Option ((Bool) × (List Bool) × (List Int))}  (hrec:∀ {a_0:Int} {p_1:Int} {p_2:(List Bool)} {p_3:(List Bool)} {p_4:za1} {p_5:(List Int)} {out:((Bool) × (List Bool) × (List Int))},rec a_0 p_1 p_2 p_3 p_4 p_5 = some out → ∀ (b_3:Nat) (hv_3_0:AVal) (b_5:Nat) (hv_5_0:AVal),FunM ktab 87 [.val (rInt .i64) a_0,.val (rPtr (rInt .i64)) p_1,.val (rPtr (rSlice rBool)) p_2,.raw (.ptr b_3 0),.val (rPtr (rPtr zq)) p_4,.raw (.ptr b_5 0),.val (rSelfP 87 [.val (rPtr (rInt .i64)) (p_1),.val (rPtr (rSlice rBool)) (p_2),.raw (.ptr b_3 0),.val (rPtr (rPtr zq)) (p_4),.raw (.ptr b_5 0)]) ()] [(.ptr b_3 0,.box [.raw hv_3_0]),(hv_3_0,.row rBool (p_3)),(.ptr b_5 0,.box [.raw hv_5_0]),(hv_5_0,.row (rInt .i64) (p_5))] [.val rBool (out.1)] (fun γ => [(.ptr b_3 0,.box [.raw ((gh γ 0))]),((gh γ 0),.row rBool (out.2.1)),(.ptr b_5 0,.box [.raw ((gh γ 1))]),((gh γ 1),.row (rInt .i64) (out.2.2))])) {a_0:Int} {p_1:Int} {p_2:(List Bool)} {p_3:(List Bool)} {p_4:za1} {p_5:(List Int)} {out:((Bool) × (List Bool) × (List Int))} (ho:zf2 rec a_0 p_1 p_2 p_3 p_4 p_5 = some out) (b_3:Nat) (hv_3_0:AVal) (b_5:Nat) (hv_5_0:AVal):FunM ktab 87 [.val (rInt .i64) a_0,.val (rPtr (rInt .i64)) p_1,.val (rPtr (rSlice rBool)) p_2,.raw (.ptr b_3 0),.val (rPtr (rPtr zq)) p_4,.raw (.ptr b_5 0),.val (rSelfP 87 [.val (rPtr (rInt .i64)) (p_1),.val (rPtr (rSlice rBool)) (p_2),.raw (.ptr b_3 0),.val (rPtr (rPtr zq)) (p_4),.raw (.ptr b_5 0)]) ()] [(.ptr b_3 0,.box [.raw hv_3_0]),(hv_3_0,.row rBool (p_3)),(.ptr b_5 0,.box [.raw hv_5_0]),(hv_5_0,.row (rInt .i64) (p_5))] [.val rBool (out.1)] (fun γ => [(.ptr b_3 0,.box [.raw ((gh γ 0))]),((gh γ 0),.row rBool (out.2.1)),(.ptr b_5 0,.box [.raw ((gh γ 1))]),((gh γ 1),.row (rInt .i64) (out.2.2))]) := by
 refine ze6 (F := Try.f87) (by rfl) (by rfl) (by rfl) (fun C => ?_)
 delta zf2 at ho
 refine run 12 ?_
 obtain ⟨t90,ht90,ho⟩ := bnd ho
 refine wlp ht90 [0,1,2,3,4,5,6] (fun s g => ([(9,vI (s.1))],[(.ptr b_3 0,.box [.raw ((gh g 0))]),(.ptr b_5 0,.box [.raw ((gh g 1))]),((gh g 0),.row rBool (s.2.1)),((gh g 1),.row (rInt .i64) (s.2.2))])) (altX (fun b => (.exit 0,fun g => ([],[(.ptr b_3 0,.box [.raw ((gh g 0))]),(.ptr b_5 0,.box [.raw ((gh g 1))]),((gh g 0),.row rBool (b.1)),((gh g 1),.row (rInt .i64) (b.2))]))) (fun b => (.ret,fun g => ([(8,vB (b.1))],[(.ptr b_3 0,.box [.raw ((gh g 0))]),(.ptr b_5 0,.box [.raw ((gh g 1))]),((gh g 0),.row rBool (b.2.1)),((gh g 1),.row (rInt .i64) (b.2.2))])))) [hv_3_0,hv_5_0] SEL (pk [0,2,1,3]) NE (fun s59 g60 _ ho => ?_) fun g91 => ?_
 ·refine run 7 ?_
  refine wct ho (fun hq61 ho => ?_) fun hq61 ho => ?_
  ·refine run 8 ?_
   obtain ⟨x67,hx67,ho⟩ := bnd ho
   refine run 3 ?_
   refine wbr ho (fun hb68 ho => ?_) fun hb68 ho => ?_
   ·refine run 13 ?_
    refine zw1 (.t rfl) (fun _ => ?_) (fun hq => by cases hq)
    refine run 5 ?_
    cases ho; exact s_nil (lf [(gh g60 0),(gh g60 1)] [0,1,2,3])
   ·refine run 2 ?_
    obtain ⟨x70,hx70,ho⟩ := bnd ho
    refine run 4 ?_
    refine wbr ho (fun hb71 ho => ?_) fun hb71 ho => ?_
    ·refine run 7 ?_
     refine zw1 (.t rfl) (fun _ => ?_) (fun hq => by cases hq)
     refine run 5 ?_
     cases ho; exact s_nil (lf [(gh g60 0),(gh g60 1)] [0,1,2,3])
    ·refine run 3 ?_
     refine xcl ho ?_
     intro y73 hy73 ho
     show SOps ..
     refine run 3 ?_
     refine wct ho (fun hq74 ho => ?_) fun hq74 ho => ?_
     ·refine run 5 ?_
      cases ho; exact s_nil (lf [(gh g60 0),(gh g60 1)] [0,1,2,3])
     ·refine run 5 ?_
      obtain ⟨x75,hx75,ho⟩ := bnd ho
      refine run 4 ?_
      refine zz4 [0,3,7,10] (by kernel_rfl) ?_
      refine run 2 ?_
      obtain ⟨x81,hx81,ho⟩ := bnd ho
      refine run 4 ?_
      refine wbr ho (fun hb82 ho => ?_) fun hb82 ho => ?_
      ·refine run 8 ?_
       refine zw1 (.t rfl) (fun _ => ?_) (fun hq => by cases hq)
       refine run 5 ?_
       obtain ⟨x84,hx84,ho⟩ := bnd ho
       refine run 7 ?_
       cases ho; exact r_ret (lf [(gh g60 0),(gh g60 1)] [0,1,2,3])
      ·refine zc4 rfl UR103 (.g rfl rfl (gf0 hb82)) rfl rfl (.t rfl) ?_
       refine run 2 ?_
       obtain ⟨x85,hx85,ho⟩ := bnd ho
       refine run 2 ?_
       obtain ⟨y86,hy86,ho⟩ := bnd ho
       refine zo5 (ps := []) (es := [vI (x85)]) (cs := [.val (rPtr (rInt .i64)) (p_1),.val (rPtr (rSlice rBool)) (p_2),.raw (.ptr b_3 0),.val (rPtr (rPtr zq)) (p_4),.raw (.ptr b_5 0),.val (rSelfP 87 [.val (rPtr (rInt .i64)) (p_1),.val (rPtr (rSlice rBool)) (p_2),.raw (.ptr b_3 0),.val (rPtr (rPtr zq)) (p_4),.raw (.ptr b_5 0)]) ()]) [0,2,1,3] [] (fun _ h => by cases h <;> exact ⟨by kernel_rfl,by kernel_rfl⟩) (hrec hy86 b_3 ((gh g60 0)) b_5 ((gh g60 1))) rfl rfl (by decide) rfl (.g rfl rfl (gf0 hb82)) rfl rfl rfl (.t rfl) (.c (.t rfl) .n) ?_
       intro g87
       show SOps ..
       refine run 2 ?_
       refine wct ho (fun hq88 ho => ?_) fun hq88 ho => ?_
       ·refine run 5 ?_
        obtain ⟨x89,hx89,ho⟩ := bnd ho
        refine run 7 ?_
        cases ho; exact r_ret (lf [(gh g87 0),(gh g87 1)] [0,2,1,3])
       ·refine run 5 ?_
        cases ho; exact s_nil (lf [(gh g87 0),(gh g87 1)] [0,2,1,3])
  ·cases ho; exact zf1 (lf [(gh g60 0),(gh g60 1)] [0,1,2,3])
 ·rcases t90 with b92 | b93
  ·have ho := alt_l ho
   show SRun ..
   refine run 4 ?_
   cases ho; exact r_ret (zy1 [0,2,1,3] [(gh g91 0),(gh g91 1)] (.inr rfl) (.v rfl .n) rfl (by decide))
  ·have ho := alt_r ho
   cases ho; exact id (zy1 [0,2,1,3] [(gh g91 0),(gh g91 1)] (.inr rfl) (.v rfl .n) rfl (by decide))
theorem zr7   {k:Nat} {a_0:Int} {p_1:Int} {p_2:(List Bool)} {p_3:(List Bool)} {p_4:za1} {p_5:(List Int)} {out:((Bool) × (List Bool) × (List Int))} (ho:zk3 k a_0 p_1 p_2 p_3 p_4 p_5 = some out) (b_3:Nat) (hv_3_0:AVal) (b_5:Nat) (hv_5_0:AVal):FunM ktab 87 [.val (rInt .i64) a_0,.val (rPtr (rInt .i64)) p_1,.val (rPtr (rSlice rBool)) p_2,.raw (.ptr b_3 0),.val (rPtr (rPtr zq)) p_4,.raw (.ptr b_5 0),.val (rSelfP 87 [.val (rPtr (rInt .i64)) (p_1),.val (rPtr (rSlice rBool)) (p_2),.raw (.ptr b_3 0),.val (rPtr (rPtr zq)) (p_4),.raw (.ptr b_5 0)]) ()] [(.ptr b_3 0,.box [.raw hv_3_0]),(hv_3_0,.row rBool (p_3)),(.ptr b_5 0,.box [.raw hv_5_0]),(hv_5_0,.row (rInt .i64) (p_5))] [.val rBool (out.1)] (fun γ => [(.ptr b_3 0,.box [.raw ((gh γ 0))]),((gh γ 0),.row rBool (out.2.1)),(.ptr b_5 0,.box [.raw ((gh γ 1))]),((gh γ 1),.row (rInt .i64) (out.2.2))]) := by
 induction k generalizing a_0 p_1 p_2 p_3 p_4 p_5 out b_3 hv_3_0 b_5 hv_5_0 with
 | zero => cases ho
 | succ k ih => exact zi6 (fun h b_3 hv_3_0 b_5 hv_5_0 => ih h b_3 hv_3_0 b_5 hv_5_0) ho b_3 hv_3_0 b_5 hv_5_0
instance i59 {w_0 fixed_1}:FI ktab 59 (za2 w_0 fixed_1) [.val (rPtr zq) w_0,.val (rSlice (rInt .i64)) fixed_1] (fun out => [.val (rInt .i64) (out)]) := ⟨fun out ho => by
 delta za2 at ho
 refine fn fun _ _ => ?_
 refine run 12 ?_
 refine xal (zv := .int .i64 0) (es := [vI (0)]) (by kernel_rfl) fun b1 => ?_
 refine run 1 ?_
 refine s_st (zn1 (R := (rInt .i64)) (a := (lenI w_0.1)) 0 [5] (zd rfl) rfl rfl ⟨rfl,trivial⟩) ?_
 refine run 4 ?_
 obtain ⟨x2,hx2,ho⟩ := bnd ho
 refine xmk fun v3 => ?_
 refine s_st (zm (rInt .i64)) ?_
 refine xal (zv := .nilslice) (es := [.raw .nilslice]) (by kernel_rfl) fun b4 => ?_
 refine zw3 0 2 (U27).sz rfl rfl (by exact Nat.le_of_ble_eq_true rfl) (.n rfl) rfl rfl (.t rfl) (.t rfl) (by rfl) ?_
 refine run 9 ?_
 obtain ⟨t13,ht13,ho⟩ := bnd ho
 refine wlp ht13 [1,2,5,6,23] (fun s g => ([(24,vI (s.1))],[(.ptr b4 0,.box [.raw ((gh g 0))]),((gh g 0),.row (rInt .i64) (s.2))])) (fun b => (.exit 0,fun g => ([],[(.ptr b4 0,.box [.raw ((gh g 0))]),((gh g 0),.row (rInt .i64) (b))]))) [v3] SEL (pk [0,2]) NE (fun s9 g10 _ ho => ?_) fun g14 => ?_
 ·refine run 5 ?_
  refine wct ho (fun hq11 ho => ?_) fun hq11 ho => ?_
  ·refine run 11 ?_
   obtain ⟨x12,hx12,ho⟩ := bnd ho
   refine run 6 ?_
   cases ho; exact s_nil (lf [(gh g10 0)] [0,1])
  ·cases ho; exact zf1 (lf [(gh g10 0)] [0,1])
 ·show SRun ..
  refine run 7 ?_
  obtain ⟨x15,hx15,ho⟩ := bnd ho
  refine xmk fun v16 => ?_
  refine s_st (zm rBool) ?_
  refine xal (zv := .nilslice) (es := [.raw .nilslice]) (by kernel_rfl) fun b17 => ?_
  refine zw3 0 2 (U24).sz rfl rfl (by exact Nat.le_of_ble_eq_true rfl) (.n rfl) rfl rfl (.t rfl) (.t rfl) (by rfl) ?_
  refine run 9 ?_
  obtain ⟨t32,ht32,ho⟩ := bnd ho
  refine wlp ht32 [1,2,5,6,9,33,34] (fun s g => ([(8,vI (s.1)),(35,vI (s.2.1))],[(.ptr b17 0,.box [.raw ((gh g 0))]),(.ptr b4 0,.box [.raw ((gh g14 0))]),((gh g14 0),.row (rInt .i64) (t13)),((gh g 0),.row rBool (s.2.2))])) (fun b => (.exit 2,fun g => ([(8,vI (b.1))],[(.ptr b17 0,.box [.raw ((gh g 0))]),(.ptr b4 0,.box [.raw ((gh g14 0))]),((gh g14 0),.row (rInt .i64) (t13)),((gh g 0),.row rBool (b.2))]))) [v16] SEL (pk [0,3,4,2]) NE (fun s26 g27 _ ho => ?_) fun g33 => ?_
  ·refine run 5 ?_
   refine wct ho (fun hq28 ho => ?_) fun hq28 ho => ?_
   ·refine run 5 ?_
    obtain ⟨x29,hx29,ho⟩ := bnd ho
    refine run 10 ?_
    refine wct ho (fun hq30 ho => ?_) fun hq30 ho => ?_
    ·refine run 4 ?_
     obtain ⟨x31,hx31,ho⟩ := bnd ho
     refine run 11 ?_
     cases ho; exact s_nil (lf [(gh g27 0)] [0,1,2,3])
    ·refine run 4 ?_
     cases ho; exact s_nil (lf [(gh g27 0)] [0,1,2,3])
   ·cases ho; exact zf1 (lf [(gh g27 0)] [0,1,2,3])
  ·show SRun ..
   refine run 2 ?_
   refine s_st (zm rBool) ?_
   refine xal (zv := .nilslice) (es := [.raw .nilslice]) (by kernel_rfl) fun b34 => ?_
   refine run 3 ?_
   refine xal (zv := .nilfunc) (es := [.raw (.nilfunc)]) (by kernel_rfl) fun b35 => ?_
   refine run 3 ?_
   refine s_st (zv5 6 3 (q := 0) [] rfl rfl rfl rfl (by rfl) trivial) ?_
   refine s_st (zn1 (R := (rSlice rBool)) (a := t32.2) 3 [9] (zd rfl) rfl rfl ⟨rfl,trivial⟩) ?_
   refine zu13 (.n rfl) rfl rfl .n (.c (.t rfl) (.c (.t rfl) (.c (.t rfl) (.c (.t rfl) (.c (.t rfl) (.c (.t rfl) .n)))))) ?_
   refine za9 0 (UR103).sz rfl (by exact Nat.le_of_ble_eq_true rfl) (.n rfl) rfl rfl (.t rfl) (.t rfl) rfl rfl ?_
   refine s_st (zd9 0 [13] (zn12 (g := 87) (cs := [.val (rPtr (rInt .i64)) ((lenI w_0.1)),.val (rPtr (rSlice rBool)) (t32.2),.raw (.ptr b34 0),.val (rPtr (rPtr zq)) (w_0),.raw (.ptr b4 0)]) rfl) rfl rfl ⟨rfl,trivial⟩) ?_
   refine run 9 ?_
   obtain ⟨t56,ht56,ho⟩ := bnd ho
   refine wlp ht56 [5,12,13] (fun s g => ([(8,vI (s.1)),(14,vI (s.2.1))],[(.ptr b34 0,.box [.raw ((gh g 0))]),(.ptr b4 0,.box [.raw ((gh g 1))]),((gh g 0),.row rBool (s.2.2.1)),((gh g 1),.row (rInt .i64) (s.2.2.2))])) (fun b => (.exit 4,fun g => ([(8,vI (b.1))],[]))) [.nilslice,(gh g14 0)] SEL (pk [0,2,1,3]) NE (fun s48 g49 _ ho => ?_) fun g57 => ?_
   ·refine run 7 ?_
    refine wct ho (fun hq50 ho => ?_) fun hq50 ho => ?_
    ·refine run 6 ?_
     obtain ⟨x51,hx51,ho⟩ := bnd ho
     refine xmk fun v52 => ?_
     refine zw3 1 0 (U24).sz rfl rfl (by exact Nat.le_of_ble_eq_true rfl) (.n rfl) rfl rfl (.t rfl) (.t rfl) (by rfl) ?_
     refine run 3 ?_
     refine zc4 rfl UR103 (.n rfl) rfl rfl (.t rfl) ?_
     refine run 1 ?_
     obtain ⟨y53,hy53,ho⟩ := bnd ho
     refine zo5 (ps := []) (es := [vI (s48.2.1)]) (cs := [.val (rPtr (rInt .i64)) ((lenI w_0.1)),.val (rPtr (rSlice rBool)) (t32.2),.raw (.ptr b34 0),.val (rPtr (rPtr zq)) (w_0),.raw (.ptr b4 0),.val (rSelfP 87 [.val (rPtr (rInt .i64)) ((lenI w_0.1)),.val (rPtr (rSlice rBool)) (t32.2),.raw (.ptr b34 0),.val (rPtr (rPtr zq)) (w_0),.raw (.ptr b4 0)]) ()]) [1,0,2,4] [3] (fun _ h => by cases h) (zr7 hy53 b34 v52 b4 ((gh g49 1))) rfl rfl (by decide) rfl (.n rfl) rfl rfl rfl (.t rfl) (.c (.t rfl) .n) ?_
     intro g54
     show SOps ..
     refine run 1 ?_
     refine wct ho (fun hq55 ho => ?_) fun hq55 ho => ?_
     ·refine run 9 ?_
      cases ho; exact s_nil (lf [(gh g54 0),(gh g54 1)] [0,2,1,3])
     ·refine run 5 ?_
      cases ho; exact s_nil (lf [(gh g54 0),(gh g54 1)] [0,2,1,3])
    ·cases ho; exact zf1 (lf [(gh g49 0),(gh g49 1)] [])
   ·show SRun ..
    exact w ho⟩
instance i29 {w_0}:FI ktab 29 (zo2 w_0) [.val (rPtr zq) w_0] (fun out => [.row (rInt .i64) (out)]) := ⟨fun out ho => by
 delta zo2 at ho
 refine fn fun _ _ => ?_
 refine run 2 ?_
 refine s_st (zm (rInt .i64)) ?_
 refine zx (.n rfl) rfl rfl .nilr ?_
 refine run 1 ?_
 refine zg26 (by exact zj22) ?_
 refine run 12 ?_
 obtain ⟨y1,hy1,ho⟩ := bnd ho
 refine ze11 (i59.ok _ hy1) (.v zv17 .n) rfl (.n rfl) rfl rfl rfl .f (.c (.o (.t rfl)) (.c (.o .nil) .n)) ?_
 show SOps ..
 refine run 4 ?_
 refine s_st (zm (rInt .i64)) ?_
 refine zx (.n rfl) rfl rfl .nilr ?_
 refine run 10 ?_
 obtain ⟨t118,ht118,ho⟩ := bnd ho
 refine wlp ht118 [0,3,4,15] (fun s g => ([(5,.raw ((gh g 0))),(16,vI (s.2))],[((gh g 0),.row (rInt .i64) (s.1))])) (fun b => (.exit 0,fun g => ([(5,.raw ((gh g 0)))],[((gh g 0),.row (rInt .i64) (b))]))) [.nilslice] SEL (pk [0]) NE (fun s59 g60 _ ho => ?_) fun g119 => ?_
 ·refine run 5 ?_
  refine wct ho (fun hq61 ho => ?_) fun hq61 ho => ?_
  ·refine run 16 ?_
   obtain ⟨t112,ht112,ho⟩ := bnd ho
   refine wlp ht112 [0,3,4,6,15,16] (fun s g => ([(5,.raw ((gh g 0))),(7,vI (s.2))],[((gh g 0),.row (rInt .i64) (s.1))])) (altX (fun b => (.exit 1,fun g => ([(5,.raw ((gh g 0))),(32,vI (b.2.1)),(33,vB (b.2.2.1)),(34,vB (b.2.2.2.1)),(37,.val (rPtr zq) (b.2.2.2.2.1)),(40,vI (b.2.2.2.2.2.1)),(41,.val (rSlice (rInt .i64)) (b.2.2.2.2.2.2.1)),(42,.raw ((gh g 1))),(43,vI (b.2.2.2.2.2.2.2.2.1)),(44,vI (b.2.2.2.2.2.2.2.2.2.1)),(45,vB (b.2.2.2.2.2.2.2.2.2.2))],[((gh g 0),.row (rInt .i64) (b.1)),((gh g 1),.row (rInt .i64) (b.2.2.2.2.2.2.2.1))]))) (fun b => (.exit 2,fun g => ([(5,.raw ((gh g 0)))],[((gh g 0),.row (rInt .i64) (b))])))) [(gh g60 0)] SEL (pk [0]) NE (fun s86 g87 _ ho => ?_) fun g113 => ?_
   ·refine run 7 ?_
    refine wct ho (fun hq88 ho => ?_) fun hq88 ho => ?_
    ·refine run 8 ?_
     refine xcl ho ?_
     intro y98 hy98 ho
     show SOps ..
     refine run 1 ?_
     refine wbr ho (fun hb99 ho => ?_) fun hb99 ho => ?_
     ·refine run 2 ?_
      refine xcl ho ?_
      intro y100 hy100 ho
      show SOps ..
      refine run 3 ?_
      refine wbr ho (fun hb101 ho => ?_) fun hb101 ho => ?_
      ·refine run 2 ?_
       refine xcl ho ?_
       intro y102 hy102 ho v103
       show SOps ..
       refine run 2 ?_
       obtain ⟨x104,hx104,ho⟩ := bnd ho
       refine xap fun v105 => ?_
       refine xcl ho ?_
       intro y106 hy106 ho
       show SOps ..
       refine run 4 ?_
       refine wct ho (fun hq107 ho => ?_) fun hq107 ho => ?_
       ·refine run 5 ?_
        obtain ⟨x108,hx108,ho⟩ := bnd ho
        refine xap fun v109 => ?_
        refine run 2 ?_
        cases ho; exact zf1 (lf [v109,v105] [0,1])
       ·refine run 5 ?_
        cases ho; exact s_nil (lf [(gh g87 0)] [1])
      ·refine run 11 ?_
       refine zw1 (.t rfl) (fun hq => by cases hq) (fun _ => ?_)
       refine run 5 ?_
       cases ho; exact s_nil (lf [(gh g87 0)] [0])
     ·refine run 17 ?_
      refine zw1 (.t rfl) (fun hq => by cases hq) (fun _ => ?_)
      refine run 5 ?_
      cases ho; exact s_nil (lf [(gh g87 0)] [0])
    ·cases ho; exact zf1 (lf [(gh g87 0)] [0])
   ·rcases t112 with b114 | b115
    ·have ho := alt_l ho
     show SRun ..
     refine run 3 ?_
     cases ho; exact s_nil (lf [(gh g113 0)] [0])
    ·have ho := alt_r ho
     show SRun ..
     refine run 4 ?_
     obtain ⟨x116,hx116,ho⟩ := bnd ho
     refine xap fun v117 => ?_
     refine run 5 ?_
     cases ho; exact s_nil (lf [v117] [0])
  ·cases ho; exact zf1 (lf [(gh g60 0)] [0])
 ·show SRun ..
  exact w ho⟩
theorem zu8  {rec:Int → (List Bool) → Int → za1 → (List Bool) → (List Int) → Option ((List Bool) × (List Bool))}  (hrec:∀ {a_0:Int} {p_1:(List Bool)} {p_2:Int} {p_3:za1} {p_4:(List Bool)} {p_5:(List Int)} {out:((List Bool) × (List Bool))},rec a_0 p_1 p_2 p_3 p_4 p_5 = some out → ∀ (b_1:Nat) (hv_1_0:AVal) (b_4:Nat) (hv_4_0:AVal),FunM ktab 30 [.val (rInt .i64) a_0,.raw (.ptr b_1 0),.val (rPtr (rInt .i64)) p_2,.val (rPtr (rPtr zq)) p_3,.raw (.ptr b_4 0),.val (rPtr (rSlice (rInt .i64))) p_5,.val (rSelfP 30 [.raw (.ptr b_1 0),.val (rPtr (rInt .i64)) (p_2),.val (rPtr (rPtr zq)) (p_3),.raw (.ptr b_4 0),.val (rPtr (rSlice (rInt .i64))) (p_5)]) ()] [(.ptr b_1 0,.box [.raw hv_1_0]),(hv_1_0,.row rBool (p_1)),(.ptr b_4 0,.box [.raw hv_4_0]),(hv_4_0,.row rBool (p_4))] [] (fun γ => [(.ptr b_1 0,.box [.raw ((gh γ 0))]),((gh γ 0),.row rBool (out.1)),(.ptr b_4 0,.box [.raw ((gh γ 1))]),((gh γ 1),.row rBool (out.2))])) {a_0:Int} {p_1:(List Bool)} {p_2:Int} {p_3:za1} {p_4:(List Bool)} {p_5:(List Int)} {out:((List Bool) × (List Bool))} (ho:zz3 rec a_0 p_1 p_2 p_3 p_4 p_5 = some out) (b_1:Nat) (hv_1_0:AVal) (b_4:Nat) (hv_4_0:AVal):FunM ktab 30 [.val (rInt .i64) a_0,.raw (.ptr b_1 0),.val (rPtr (rInt .i64)) p_2,.val (rPtr (rPtr zq)) p_3,.raw (.ptr b_4 0),.val (rPtr (rSlice (rInt .i64))) p_5,.val (rSelfP 30 [.raw (.ptr b_1 0),.val (rPtr (rInt .i64)) (p_2),.val (rPtr (rPtr zq)) (p_3),.raw (.ptr b_4 0),.val (rPtr (rSlice (rInt .i64))) (p_5)]) ()] [(.ptr b_1 0,.box [.raw hv_1_0]),(hv_1_0,.row rBool (p_1)),(.ptr b_4 0,.box [.raw hv_4_0]),(hv_4_0,.row rBool (p_4))] [] (fun γ => [(.ptr b_1 0,.box [.raw ((gh γ 0))]),((gh γ 0),.row rBool (out.1)),(.ptr b_4 0,.box [.raw ((gh γ 1))]),((gh γ 1),.row rBool (out.2))]) := by
 refine ze6 (F := Try.f30) (by rfl) (by rfl) (by rfl) (fun C => ?_)
 delta zz3 at ho
 refine run 5 ?_
 obtain ⟨x1,hx1,ho⟩ := bnd ho
 refine run 3 ?_
 refine wct ho (fun hq2 ho => ?_) fun hq2 ho => ?_
 ·cases ho; exact r_ret (zy1 [0,1,2,3] [hv_1_0,hv_4_0] (.inr rfl) .n rfl (by decide))
 ·refine run 5 ?_
  obtain ⟨x3,hx3,ho⟩ := bnd ho
  refine run 9 ?_
  obtain ⟨t51,ht51,ho⟩ := bnd ho
  refine wlp ht51 [0,3,4,5,6,16] (fun s g => ([(17,vI (s.1))],[(.ptr b_1 0,.box [.raw ((gh g 0))]),(.ptr b_4 0,.box [.raw ((gh g 1))]),((gh g 0),.row rBool (s.2.1)),((gh g 1),.row rBool (s.2.2))])) (fun b => (.exit 0,fun g => ([],[(.ptr b_1 0,.box [.raw ((gh g 0))]),(.ptr b_4 0,.box [.raw ((gh g 1))]),((gh g 0),.row rBool (b.1)),((gh g 1),.row rBool (b.2))]))) [hv_1_0,hv_4_0] SEL (pk [0,2,1,3]) NE (fun s34 g35 _ ho => ?_) fun g52 => ?_
  ·refine run 5 ?_
   refine wct ho (fun hq36 ho => ?_) fun hq36 ho => ?_
   ·refine run 13 ?_
    refine xcl ho ?_
    intro y40 hy40 ho
    show SOps ..
    refine run 1 ?_
    refine wbr ho (fun hb41 ho => ?_) fun hb41 ho => ?_
    ·refine run 2 ?_
     obtain ⟨x42,hx42,ho⟩ := bnd ho
     refine run 5 ?_
     refine wct ho (fun hq43 ho => ?_) fun hq43 ho => ?_
     ·refine run 4 ?_
      obtain ⟨x44,hx44,ho⟩ := bnd ho
      refine run 7 ?_
      obtain ⟨x45,hx45,ho⟩ := bnd ho
      refine run 4 ?_
      refine wct ho (fun hq46 ho => ?_) fun hq46 ho => ?_
      ·refine run 1 ?_
       refine zc4 rfl UR86 (.n rfl) rfl rfl (.t rfl) ?_
       refine run 2 ?_
       obtain ⟨x47,hx47,ho⟩ := bnd ho
       refine run 2 ?_
       obtain ⟨y48,hy48,ho⟩ := bnd ho
       refine zo5 (ps := []) (es := [vI (x47)]) (cs := [.raw (.ptr b_1 0),.val (rPtr (rInt .i64)) (p_2),.val (rPtr (rPtr zq)) (p_3),.raw (.ptr b_4 0),.val (rPtr (rSlice (rInt .i64))) (p_5),.val (rSelfP 30 [.raw (.ptr b_1 0),.val (rPtr (rInt .i64)) (p_2),.val (rPtr (rPtr zq)) (p_3),.raw (.ptr b_4 0),.val (rPtr (rSlice (rInt .i64))) (p_5)]) ()]) [0,2,1,3] [] (fun _ h => by cases h <;> exact ⟨by kernel_rfl,by kernel_rfl⟩) (hrec hy48 b_1 ((gh g35 0)) b_4 ((gh g35 1))) rfl rfl (by decide) rfl (.n rfl) rfl rfl rfl (.t rfl) (.c (.t rfl) .n) ?_
       intro g49
       show SOps ..
       refine run 4 ?_
       cases ho; exact s_nil (lf [(gh g49 0),(gh g49 1)] [0,2,1,3])
      ·refine run 4 ?_
       cases ho; exact s_nil (lf [(gh g35 0),(gh g35 1)] [0,1,2,3])
     ·refine run 4 ?_
      cases ho; exact s_nil (lf [(gh g35 0),(gh g35 1)] [0,1,2,3])
    ·refine run 7 ?_
     refine zw1 (.t rfl) (fun hq => by cases hq) (fun _ => ?_)
     refine run 4 ?_
     cases ho; exact s_nil (lf [(gh g35 0),(gh g35 1)] [0,1,2,3])
   ·cases ho; exact zf1 (lf [(gh g35 0),(gh g35 1)] [0,1,2,3])
  ·cases ho; exact id (zy1 [0,2,1,3] [(gh g52 0),(gh g52 1)] (.inl rfl) .n rfl (by decide))
theorem ze12   {k:Nat} {a_0:Int} {p_1:(List Bool)} {p_2:Int} {p_3:za1} {p_4:(List Bool)} {p_5:(List Int)} {out:((List Bool) × (List Bool))} (ho:zu4 k a_0 p_1 p_2 p_3 p_4 p_5 = some out) (b_1:Nat) (hv_1_0:AVal) (b_4:Nat) (hv_4_0:AVal):FunM ktab 30 [.val (rInt .i64) a_0,.raw (.ptr b_1 0),.val (rPtr (rInt .i64)) p_2,.val (rPtr (rPtr zq)) p_3,.raw (.ptr b_4 0),.val (rPtr (rSlice (rInt .i64))) p_5,.val (rSelfP 30 [.raw (.ptr b_1 0),.val (rPtr (rInt .i64)) (p_2),.val (rPtr (rPtr zq)) (p_3),.raw (.ptr b_4 0),.val (rPtr (rSlice (rInt .i64))) (p_5)]) ()] [(.ptr b_1 0,.box [.raw hv_1_0]),(hv_1_0,.row rBool (p_1)),(.ptr b_4 0,.box [.raw hv_4_0]),(hv_4_0,.row rBool (p_4))] [] (fun γ => [(.ptr b_1 0,.box [.raw ((gh γ 0))]),((gh γ 0),.row rBool (out.1)),(.ptr b_4 0,.box [.raw ((gh γ 1))]),((gh γ 1),.row rBool (out.2))]) := by
 induction k generalizing a_0 p_1 p_2 p_3 p_4 p_5 out b_1 hv_1_0 b_4 hv_4_0 with
 | zero => cases ho
 | succ k ih => exact zu8 (fun h b_1 hv_1_0 b_4 hv_4_0 => ih h b_1 hv_1_0 b_4 hv_4_0) ho b_1 hv_1_0 b_4 hv_4_0
instance i12 {p_0 p_1}:FI ktab 12 (zx5 p_0 p_1) [.val (rSlice rTask) p_0,.val rYard p_1] (fun out => [.row (rSlice (rInt .i64)) (out.1),.val rDutyProof (out.2.1),.val (rInt .i64) (out.2.2)]) := ⟨fun out ho => by
 delta zx5 at ho
 refine fn fun _ _ => ?_
 refine run 3 ?_
 refine s_st (zm (rSlice (rInt .i64))) ?_
 refine zx (.n rfl) rfl rfl .nilr ?_
 refine xal (zv := .agg [.nilslice,.nilslice]) (es := [.val (rSlice (rInt .i64)) ([]),.val (rSlice (rInt .i64)) ([])]) (by kernel_rfl) fun b1 => ?_
 refine run 7 ?_
 refine xcl ho ?_
 intro y2 hy2 ho
 show SOps ..
 refine run 2 ?_
 refine wct ho (fun hq3 ho => ?_) fun hq3 ho => ?_
 ·refine run 3 ?_
  refine s_st (zm (rSlice (rInt .i64))) ?_
  refine zx (.n rfl) rfl rfl .nilr ?_
  refine run 3 ?_
  cases ho; exact r_ret (zg2 (.inr rfl) (.r 0 rfl rfl (.b 1 U45 (zb (zd rfl) (zb (zd rfl) zt rfl) rfl) rfl rfl (.v rfl .n))) (by decide))
 ·refine run 7 ?_
  refine xal (zv := .nilptr) (es := [.raw (.nilptr)]) (by kernel_rfl) fun b4 => ?_
  refine run 1 ?_
  refine s_st (zn1 (R := (rPtr zq)) (a := ((p_0,p_1,()):za1)) 0 [7] (zd rfl) rfl rfl ⟨rfl,trivial⟩) ?_
  refine run 5 ?_
  refine xal (zv := .int .i64 0) (es := [vI (0)]) (by kernel_rfl) fun b5 => ?_
  refine run 1 ?_
  refine s_st (zn1 (R := (rInt .i64)) (a := (lenI p_0)) 0 [8] (zd rfl) rfl rfl ⟨rfl,trivial⟩) ?_
  refine run 4 ?_
  refine xcl ho ?_
  intro y6 hy6 ho v7
  show SOps ..
  refine run 5 ?_
  obtain ⟨x8,hx8,ho⟩ := bnd ho
  refine xmk fun v9 => ?_
  refine s_st (zm (rInt .i64)) ?_
  refine xal (zv := .nilslice) (es := [.raw .nilslice]) (by kernel_rfl) fun b10 => ?_
  refine zw3 0 2 (U27).sz rfl rfl (by exact Nat.le_of_ble_eq_true rfl) (.n rfl) rfl rfl (.t rfl) (.t rfl) (by rfl) ?_
  refine run 9 ?_
  obtain ⟨t19,ht19,ho⟩ := bnd ho
  refine wlp ht19 [5,7,8,9,10,40] (fun s g => ([(41,vI (s.1))],[(.ptr b10 0,.box [.raw ((gh g 0))]),(v7,.row (rInt .i64) (y6)),(.ptr b1 0,.box [.val (rSlice (rInt .i64)) ([]),.val (rSlice (rInt .i64)) ([])]),((gh g 0),.row (rInt .i64) (s.2))])) (fun b => (.exit 0,fun g => ([],[(.ptr b10 0,.box [.raw ((gh g 0))]),(v7,.row (rInt .i64) (y6)),(.ptr b1 0,.box [.val (rSlice (rInt .i64)) ([]),.val (rSlice (rInt .i64)) ([])]),((gh g 0),.row (rInt .i64) (b))]))) [v9] SEL (pk [0,3,4,2]) NE (fun s15 g16 _ ho => ?_) fun g20 => ?_
  ·refine run 5 ?_
   refine wct ho (fun hq17 ho => ?_) fun hq17 ho => ?_
   ·refine run 11 ?_
    obtain ⟨x18,hx18,ho⟩ := bnd ho
    refine run 6 ?_
    cases ho; exact s_nil (lf [(gh g16 0)] [0,1,2,3])
   ·cases ho; exact zf1 (lf [(gh g16 0)] [0,1,2,3])
  ·show SRun ..
   refine run 8 ?_
   obtain ⟨t35,ht35,ho⟩ := bnd ho
   refine wlp ht35 [5,7,8,9,10,48,49] (fun s g => ([(50,vI (s.1))],[(.ptr b10 0,.box [.raw ((gh g 0))]),(v7,.row (rInt .i64) (y6)),(.ptr b1 0,.box [.val (rSlice (rInt .i64)) ([]),.val (rSlice (rInt .i64)) ([])]),((gh g 0),.row (rInt .i64) (s.2))])) (fun b => (.exit 2,fun g => ([],[(.ptr b10 0,.box [.raw ((gh g 0))]),(v7,.row (rInt .i64) (y6)),(.ptr b1 0,.box [.val (rSlice (rInt .i64)) ([]),.val (rSlice (rInt .i64)) ([])]),((gh g 0),.row (rInt .i64) (b))]))) [(gh g20 0)] SEL (pk [0,1,2,3]) NE (fun s29 g30 _ ho => ?_) fun g36 => ?_
   ·refine run 5 ?_
    refine wct ho (fun hq31 ho => ?_) fun hq31 ho => ?_
    ·refine run 6 ?_
     obtain ⟨x32,hx32,ho⟩ := bnd ho
     refine run 11 ?_
     refine wct ho (fun hq33 ho => ?_) fun hq33 ho => ?_
     ·refine run 4 ?_
      obtain ⟨x34,hx34,ho⟩ := bnd ho
      refine run 6 ?_
      cases ho; exact s_nil (lf [(gh g30 0)] [0,1,2,3])
     ·refine run 4 ?_
      cases ho; exact s_nil (lf [(gh g30 0)] [0,1,2,3])
    ·cases ho; exact zf1 (lf [(gh g30 0)] [0,1,2,3])
   ·show SRun ..
    refine run 2 ?_
    refine s_st (zm (rSlice (rInt .i64))) ?_
    refine zx (.n rfl) rfl rfl .nilr ?_
    refine run 8 ?_
    obtain ⟨t73,ht73,ho⟩ := bnd ho
    refine wlp ht73 [5,7,8,9,10,63] (fun s g => ([(14,.raw ((gh g 0))),(64,vI (s.2))],[(.ptr b10 0,.box [.raw ((gh g36 0))]),(v7,.row (rInt .i64) (y6)),(.ptr b1 0,.box [.val (rSlice (rInt .i64)) ([]),.val (rSlice (rInt .i64)) ([])]),((gh g36 0),.row (rInt .i64) (t35)),((gh g 0),.row (rSlice (rInt .i64)) (s.1))])) (fun b => (.exit 4,fun g => ([(14,.raw ((gh g 0)))],[(.ptr b10 0,.box [.raw ((gh g36 0))]),(v7,.row (rInt .i64) (y6)),(.ptr b1 0,.box [.val (rSlice (rInt .i64)) ([]),.val (rSlice (rInt .i64)) ([])]),((gh g36 0),.row (rInt .i64) (t35)),((gh g 0),.row (rSlice (rInt .i64)) (b))]))) [.nilslice] SEL (pk [1,2,3,4,0]) NE (fun s54 g55 _ ho => ?_) fun g74 => ?_
    ·refine run 5 ?_
     refine wct ho (fun hq56 ho => ?_) fun hq56 ho => ?_
     ·refine run 13 ?_
      obtain ⟨x57,hx57,ho⟩ := bnd ho
      refine run 4 ?_
      refine wct ho (fun hq58 ho => ?_) fun hq58 ho => ?_
      ·refine run 4 ?_
       cases ho; exact s_nil (lf [(gh g55 0)] [0,1,2,3,4])
      ·refine run 3 ?_
       refine s_st (zm (rInt .i64)) ?_
       refine zx (.n rfl) rfl rfl .nilr ?_
       refine run 8 ?_
       obtain ⟨t69,ht69,ho⟩ := bnd ho
       refine wlp ht69 [5,7,8,9,10,14,63,64] (fun s g => ([(16,.raw ((gh g 0))),(17,vI (s.2))],[(.ptr b10 0,.box [.raw ((gh g36 0))]),(v7,.row (rInt .i64) (y6)),(.ptr b1 0,.box [.val (rSlice (rInt .i64)) ([]),.val (rSlice (rInt .i64)) ([])]),((gh g36 0),.row (rInt .i64) (t35)),((gh g55 0),.row (rSlice (rInt .i64)) (s54.1)),((gh g 0),.row (rInt .i64) (s.1))])) (fun b => (.exit 6,fun g => ([(16,.raw ((gh g 0)))],[(.ptr b10 0,.box [.raw ((gh g36 0))]),(v7,.row (rInt .i64) (y6)),(.ptr b1 0,.box [.val (rSlice (rInt .i64)) ([]),.val (rSlice (rInt .i64)) ([])]),((gh g36 0),.row (rInt .i64) (t35)),((gh g55 0),.row (rSlice (rInt .i64)) (s54.1)),((gh g 0),.row (rInt .i64) (b))]))) [.nilslice] SEL (pk [1,2,3,4,5,0]) NE (fun s63 g64 _ ho => ?_) fun g70 => ?_
       ·refine run 7 ?_
        refine wct ho (fun hq65 ho => ?_) fun hq65 ho => ?_
        ·refine run 7 ?_
         obtain ⟨x66,hx66,ho⟩ := bnd ho
         refine xap fun v67 => ?_
         refine run 5 ?_
         obtain ⟨x68,hx68,ho⟩ := bnd ho
         refine run 3 ?_
         cases ho; exact s_nil (lf [v67] [1,2,3,4,5,0])
        ·cases ho; exact zf1 (lf [(gh g64 0)] [0,1,2,3,4,5])
       ·show SRun ..
        refine run 3 ?_
        refine s_st (zm8 5 [16,85] rfl rfl ⟨rfl,rfl,trivial⟩) ?_
        refine run 1 ?_
        obtain ⟨x71,hx71,ho⟩ := bnd ho
        refine xap fun v72 => ?_
        refine run 5 ?_
        cases ho; exact s_nil (lf [v72] [1,2,3,4,0])
     ·cases ho; exact zf1 (lf [(gh g55 0)] [0,1,2,3,4])
    ·show SRun ..
     refine run 3 ?_
     obtain ⟨x75,hx75,ho⟩ := bnd ho
     refine xmk fun v76 => ?_
     refine run 1 ?_
     obtain ⟨x77,hx77,ho⟩ := bnd ho
     refine xmk fun v78 => ?_
     refine s_st (zm rBool) ?_
     refine xal (zv := .nilslice) (es := [.raw .nilslice]) (by kernel_rfl) fun b79 => ?_
     refine s_st (zm rBool) ?_
     refine xal (zv := .nilslice) (es := [.raw .nilslice]) (by kernel_rfl) fun b80 => ?_
     refine zw3 2 5 (U24).sz rfl rfl (by exact Nat.le_of_ble_eq_true rfl) (.n rfl) rfl rfl (.t rfl) (.t rfl) (by rfl) ?_
     refine zw3 0 4 (U24).sz rfl rfl (by exact Nat.le_of_ble_eq_true rfl) (.n rfl) rfl rfl (.t rfl) (.t rfl) (by rfl) ?_
     refine run 3 ?_
     refine xal (zv := .nilfunc) (es := [.raw (.nilfunc)]) (by kernel_rfl) fun b81 => ?_
     refine run 3 ?_
     refine s_st (zv5 10 7 (q := 0) [] rfl rfl rfl rfl (by rfl) trivial) ?_
     refine s_st (zn1 (R := (rSlice (rInt .i64))) (a := t35) 7 [10] (zd rfl) rfl rfl ⟨rfl,trivial⟩) ?_
     refine zu13 (.n rfl) rfl rfl .n (.c (.t rfl) (.c (.t rfl) (.c (.t rfl) (.c (.t rfl) (.c (.t rfl) (.c (.t rfl) .n)))))) ?_
     refine za9 0 (UR86).sz rfl (by exact Nat.le_of_ble_eq_true rfl) (.n rfl) rfl rfl (.t rfl) (.t rfl) rfl rfl ?_
     refine s_st (zd9 0 [20] (zn12 (g := 30) (cs := [.raw (.ptr b79 0),.val (rPtr (rInt .i64)) ((lenI p_0)),.val (rPtr (rPtr zq)) (((p_0,p_1,()):za1)),.raw (.ptr b80 0),.val (rPtr (rSlice (rInt .i64))) (t35)]) rfl) rfl rfl ⟨rfl,trivial⟩) ?_
     refine run 8 ?_
     obtain ⟨t99,ht99,ho⟩ := bnd ho
     refine wlp ht99 [5,8,9,14,18,19,20,94] (fun s g => ([(95,vI (s.1))],[(.ptr b80 0,.box [.raw ((gh g 0))]),(.ptr b79 0,.box [.raw ((gh g 1))]),(v7,.row (rInt .i64) (y6)),(.ptr b1 0,.box [.val (rSlice (rInt .i64)) ([]),.val (rSlice (rInt .i64)) ([])]),((gh g74 0),.row (rSlice (rInt .i64)) (t73)),((gh g 0),.row rBool (s.2.1)),((gh g 1),.row rBool (s.2.2))])) (fun b => (.exit 8,fun g => ([],[(.ptr b80 0,.box [.raw ((gh g 0))]),(.ptr b79 0,.box [.raw ((gh g 1))]),(.ptr b1 0,.box [.val (rSlice (rInt .i64)) ([]),.val (rSlice (rInt .i64)) ([])]),((gh g74 0),.row (rSlice (rInt .i64)) (t73)),((gh g 0),.row rBool (b.1)),((gh g 1),.row rBool (b.2))]))) [v78,v76] SEL (pk [0,2,6,7,8,4,5]) NE (fun s92 g93 _ ho => ?_) fun g100 => ?_
     ·refine run 5 ?_
      refine wct ho (fun hq94 ho => ?_) fun hq94 ho => ?_
      ·refine run 9 ?_
       refine zz4 [3] (by kernel_rfl) ?_
       refine run 2 ?_
       obtain ⟨x95,hx95,ho⟩ := bnd ho
       refine run 5 ?_
       refine wct ho (fun hq96 ho => ?_) fun hq96 ho => ?_
       ·refine run 1 ?_
        refine zc4 rfl UR86 (.n rfl) rfl rfl (.t rfl) ?_
        refine run 1 ?_
        obtain ⟨y97,hy97,ho⟩ := bnd ho
        refine zo5 (ps := []) (es := [vI (s92.1)]) (cs := [.raw (.ptr b79 0),.val (rPtr (rInt .i64)) ((lenI p_0)),.val (rPtr (rPtr zq)) (((p_0,p_1,()):za1)),.raw (.ptr b80 0),.val (rPtr (rSlice (rInt .i64))) (t35),.val (rSelfP 30 [.raw (.ptr b79 0),.val (rPtr (rInt .i64)) ((lenI p_0)),.val (rPtr (rPtr zq)) (((p_0,p_1,()):za1)),.raw (.ptr b80 0),.val (rPtr (rSlice (rInt .i64))) (t35)]) ()]) [1,6,0,5] [2,3,4] (fun _ h => by cases h) (ze12 hy97 b79 ((gh g93 1)) b80 ((gh g93 0))) rfl rfl (by decide) rfl (.n rfl) rfl rfl rfl (.t rfl) (.c (.t rfl) .n) ?_
        intro g98
        show SOps ..
        refine run 4 ?_
        cases ho; exact s_nil (lf [(gh g98 1),(gh g98 0)] [2,0,4,5,6,3,1])
       ·refine run 4 ?_
        cases ho; exact s_nil (lf [(gh g93 0),(gh g93 1)] [0,1,2,3,4,5,6])
      ·cases ho; exact zf1 (lf [(gh g93 0),(gh g93 1)] [0,1,3,4,5,6])
     ·show SRun ..
      refine run 2 ?_
      refine s_st (zm (rInt .i64)) ?_
      refine s_st (zm (rInt .i64)) ?_
      refine xal (zv := .agg [.nilslice,.nilslice]) (es := [.raw .nilslice,.raw .nilslice]) (by kernel_rfl) fun b101 => ?_
      refine run 8 ?_
      obtain ⟨t143,ht143,ho⟩ := bnd ho
      refine wlp ht143 [5,14,18,19,22,108] (fun s g => ([(109,vI (s.1))],[(.ptr b101 0,.box [.raw ((gh g 1)),.raw ((gh g 0))]),(.ptr b80 0,.box [.raw ((gh g100 0))]),(.ptr b79 0,.box [.raw ((gh g100 1))]),(.ptr b1 0,.box [.val (rSlice (rInt .i64)) ([]),.val (rSlice (rInt .i64)) ([])]),((gh g74 0),.row (rSlice (rInt .i64)) (t73)),((gh g100 0),.row rBool (t99.1)),((gh g100 1),.row rBool (t99.2)),((gh g 0),.row (rInt .i64) (s.2.1)),((gh g 1),.row (rInt .i64) (s.2.2))])) (fun b => (.exit 10,fun g => ([],[(.ptr b101 0,.box [.raw ((gh g 0)),.raw ((gh g 1))]),(.ptr b1 0,.box [.val (rSlice (rInt .i64)) ([]),.val (rSlice (rInt .i64)) ([])]),((gh g74 0),.row (rSlice (rInt .i64)) (t73)),((gh g 0),.row (rInt .i64) (b.1)),((gh g 1),.row (rInt .i64) (b.2))]))) [.nilslice,.nilslice] SEL (pk [0,3,4,5,6,7,8,1,2]) NE (fun s128 g129 _ ho => ?_) fun g144 => ?_
      ·refine run 5 ?_
       refine wct ho (fun hq130 ho => ?_) fun hq130 ho => ?_
       ·refine run 13 ?_
        obtain ⟨x131,hx131,ho⟩ := bnd ho
        refine run 4 ?_
        refine wct ho (fun hq132 ho => ?_) fun hq132 ho => ?_
        ·refine run 5 ?_
         obtain ⟨x133,hx133,ho⟩ := bnd ho
         refine xap fun v134 => ?_
         refine run 1 ?_
         refine zw3 1 0 (U27).sz rfl rfl (by exact Nat.le_of_ble_eq_true rfl) (.n rfl) rfl rfl (.t rfl) (.t rfl) (by rfl) ?_
         refine run 5 ?_
         obtain ⟨x135,hx135,ho⟩ := bnd ho
         refine run 3 ?_
         refine wct ho (fun hq136 ho => ?_) fun hq136 ho => ?_
         ·refine run 5 ?_
          obtain ⟨x137,hx137,ho⟩ := bnd ho
          refine xap fun v138 => ?_
          refine run 1 ?_
          refine zw3 2 0 (U27).sz rfl rfl (by exact Nat.le_of_ble_eq_true rfl) (.n rfl) rfl rfl (.t rfl) (.t rfl) (by rfl) ?_
          refine run 4 ?_
          cases ho; exact s_nil (lf [v138,v134] [2,3,4,5,6,7,8,0,1])
         ·refine run 4 ?_
          cases ho; exact s_nil (lf [(gh g129 0),v134] [1,2,3,4,5,6,7,8,0])
        ·refine run 5 ?_
         obtain ⟨x139,hx139,ho⟩ := bnd ho
         refine run 3 ?_
         refine wct ho (fun hq140 ho => ?_) fun hq140 ho => ?_
         ·refine run 5 ?_
          obtain ⟨x141,hx141,ho⟩ := bnd ho
          refine xap fun v142 => ?_
          refine run 1 ?_
          refine zw3 1 0 (U27).sz rfl rfl (by exact Nat.le_of_ble_eq_true rfl) (.n rfl) rfl rfl (.t rfl) (.t rfl) (by rfl) ?_
          refine run 4 ?_
          cases ho; exact s_nil (lf [v142,(gh g129 1)] [1,2,3,4,5,6,7,0,8])
         ·refine run 4 ?_
          cases ho; exact s_nil (lf [(gh g129 0),(gh g129 1)] [0,1,2,3,4,5,6,7,8])
       ·cases ho; exact zf1 (lf [(gh g129 1),(gh g129 0)] [0,3,4,8,7])
      ·show SRun ..
       refine run 1 ?_
       refine zz4 [1] (by kernel_rfl) ?_
       refine run 1 ?_
       refine s_st (zv5 3 0 (q := 0) [] rfl rfl rfl rfl (by rfl) trivial) ?_
       refine s_st (zv5 3 0 (q := 1) [] rfl rfl rfl rfl (by rfl) trivial) ?_
       refine zh10 (R := rDutyProof) (a := (t143.1,t143.2,())) 0 (fun _ h => by cases h <;> rfl) U45 (zb (zd rfl) (zb (zd rfl) zt rfl) rfl) (.n rfl) rfl rfl (.t rfl) rfl ?_
       refine run 4 ?_
       cases ho; exact r_ret (zg2 (.inr rfl) (.r 2 rfl rfl (.b 1 U45 (zb (zd rfl) (zb (zd rfl) zt rfl) rfl) rfl rfl (.v rfl .n))) (by decide))⟩
instance i4 {p_0 p_1 p_2 p_3}:FI ktab 4 (zu3 p_0 p_1 p_2 p_3) [.val (rSlice rTask) p_0,.val rYard p_1,vI p_2,vI p_3] (fun out => [.val rBool (out)]) := ⟨fun out ho => by
 delta zu3 at ho
 refine fn fun _ _ => ?_
 refine run 7 ?_
 obtain ⟨c8,hc8,ho⟩ := bnd ho
 refine wcx c8 [0,2,3,5] (fun t => (.normal,fun _ => ([(55,vB (t))],[]))) SEL ?_ fun _ => ?_
 ·exact w hc8
 ·show SRun ..
  refine wct ho (fun hq16 ho => ?_) fun hq16 ho => ?_
  ·refine run 2 ?_
   refine zf11 (v := .bool true) (e := .val rBool true) rfl rfl zb9 (.n rfl) rfl rfl rfl .f rfl ?_
   exact w ho
  ·refine run 5 ?_
   refine xcl ho ?_
   intro y17 hy17 ho v18
   show SOps ..
   refine run 4 ?_
   refine xal (zv := .agg [.nilslice,.nilslice]) (es := [.val (rSlice (rInt .i64)) ([]),.val (rSlice (rInt .i64)) ([])]) (by kernel_rfl) fun b19 => ?_
   refine run 2 ?_
   refine s_st (zn1 (R := rDutyProof) (a := y17.2.1) 0 [10] (zb (zd rfl) (zb (zd rfl) zt rfl) rfl) rfl rfl ⟨rfl,trivial⟩) ?_
   refine run 8 ?_
   refine wct ho (fun hq20 ho => ?_) fun hq20 ho => ?_
   ·exact w ho
   ·refine run 8 ?_
    refine wct ho (fun hq21 ho => ?_) fun hq21 ho => ?_
    ·refine run 2 ?_
     refine zf11 (v := .bool true) (e := .val rBool true) rfl rfl zb9 (.n rfl) rfl rfl rfl .f rfl ?_
     exact w ho
    ·refine run 5 ?_
     obtain ⟨x22,hx22,ho⟩ := bnd ho
     refine xmk fun v23 => ?_
     refine run 2 ?_
     obtain ⟨x24,hx24,ho⟩ := bnd ho
     refine xmk fun v25 => ?_
     refine run 14 ?_
     obtain ⟨t34,ht34,ho⟩ := bnd ho
     refine wlp ht34 [0,2,3,5,9,12,13,14,15] (fun s g => ([(16,vI (s.1))],[(v25,.row (rInt .i64) (s.2)),(v23,.row (rInt .i64) (x22)),(v18,.row (rSlice (rInt .i64)) (y17.1))])) (fun b => (.exit 0,fun g => ([],[(v25,.row (rInt .i64) (b)),(v23,.row (rInt .i64) (x22)),(v18,.row (rSlice (rInt .i64)) (y17.1))]))) [] SEL (pk [0,1,2]) NE (fun s30 g31 _ ho => ?_) fun g35 => ?_
     ·refine run 8 ?_
      refine wct ho (fun hq32 ho => ?_) fun hq32 ho => ?_
      ·refine run 7 ?_
       obtain ⟨x33,hx33,ho⟩ := bnd ho
       refine run 7 ?_
       cases ho; exact s_nil (lf [] [0,1,2])
      ·cases ho; exact zf1 (lf [] [0,1,2])
     ·show SRun ..
      refine run 6 ?_
      obtain ⟨t44,ht44,ho⟩ := bnd ho
      refine wlp ht44 [0,2,3,5,9,12,13] (fun s g => ([(14,vI (s.1)),(15,vI (s.2.1)),(17,vI (s.2.2))],[(v25,.row (rInt .i64) (t34)),(v23,.row (rInt .i64) (x22)),(v18,.row (rSlice (rInt .i64)) (y17.1))])) (fun b => (.exit 2,fun g => ([(14,vI (b.1)),(15,vI (b.2))],[(v25,.row (rInt .i64) (t34)),(v23,.row (rInt .i64) (x22)),(v18,.row (rSlice (rInt .i64)) (y17.1))]))) [] SEL (pk [0,1,2]) NE (fun s39 g40 _ ho => ?_) fun g45 => ?_
      ·refine run 8 ?_
       refine wct ho (fun hq41 ho => ?_) fun hq41 ho => ?_
       ·refine run 7 ?_
        obtain ⟨x42,hx42,ho⟩ := bnd ho
        refine run 7 ?_
        obtain ⟨x43,hx43,ho⟩ := bnd ho
        refine run 11 ?_
        cases ho; exact s_nil (lf [] [0,1,2])
       ·cases ho; exact zf1 (lf [] [0,1,2])
      ·show SRun ..
       refine run 8 ?_
       refine xcl ho ?_
       intro y46 hy46 ho v47 v48 v49 v50
       show SOps ..
       refine run 18 ?_
       refine wct ho (fun hq51 ho => ?_) fun hq51 ho => ?_
       ·refine run 1 ?_
        obtain ⟨c53,hc53,ho⟩ := bnd ho
        refine wcx c53 [] (fun t => (.normal,fun _ => ([(8,vB (t))],[(v47,.row rStableCar (y46.1)),(v48,.row rStableLeave (y46.2.1)),(v49,.row (rInt .i64) (y46.2.2.1)),(v50,.row (rInt .i64) (y46.2.2.2.1)),(v25,.row (rInt .i64) (t34)),(v23,.row (rInt .i64) (x22)),(v18,.row (rSlice (rInt .i64)) (y17.1))]))) SEL ?_ fun _ => ?_
        ·have ho := hc53
         refine run 4 ?_
         refine wbr ho (fun hb54 ho => ?_) fun hb54 ho => ?_
         ·refine zf11 (v := .bool true) (e := .val rBool true) rfl rfl zb9 (.g rfl rfl (gt1 hb54)) rfl rfl rfl .f rfl ?_
          refine run 2 ?_
          cases ho; exact s_nil (lf [] [0,1,2,3,4,5,6])
         ·refine run 3 ?_
          cases ho; exact s_nil (lf [] [0,1,2,3,4,5,6])
        ·show SRun ..
         cases ho; exact r_ret (zg2 (.inr rfl) (.v rfl .n) (by decide))
       ·refine run 9 ?_
        refine s_st (zm8 0 [114,18,131] rfl rfl ⟨rfl,rfl,rfl,trivial⟩) ?_
        refine s_st (zm8 0 [115,19,132] rfl rfl ⟨rfl,rfl,rfl,trivial⟩) ?_
        refine xcl ho ?_
        intro y55 hy55 ho
        show SOps ..
        refine run 3 ?_
        refine xal (zv := .agg [.nilslice,.nilslice,.int .i64 0]) (es := [.val (rSlice (rInt .i64)) ([]),.val (rSlice (rInt .i64)) ([]),vI (0)]) (by kernel_rfl) fun b56 => ?_
        refine run 1 ?_
        refine s_st (zn1 (R := rStablePlan) (a := y55.1) 0 [23] (zb (zd rfl) (zb (zd rfl) (zb (zd rfl) zt rfl) rfl) rfl) rfl rfl ⟨rfl,trivial⟩) ?_
        refine run 11 ?_
        refine wct ho (fun hq57 ho => ?_) fun hq57 ho => ?_
        ·refine run 1 ?_
         obtain ⟨c60,hc60,ho⟩ := bnd ho
         refine wcx c60 [] (fun t => (.normal,fun _ => ([(8,vB (t))],[(v49,.row (rInt .i64) (y46.2.2.1)),(v50,.row (rInt .i64) (y46.2.2.2.1)),(v25,.row (rInt .i64) (t34)),(v23,.row (rInt .i64) (x22)),(v18,.row (rSlice (rInt .i64)) (y17.1))]))) SEL ?_ fun _ => ?_
         ·have ho := hc60
          refine run 4 ?_
          refine wbr ho (fun hb61 ho => ?_) fun hb61 ho => ?_
          ·refine run 4 ?_
           refine zf11 (v := .bool true) (e := .val rBool true) rfl rfl zb9 (.g rfl rfl rfl) rfl rfl rfl .f rfl ?_
           refine run 2 ?_
           cases ho; exact s_nil (lf [] [0,1,2,3,4])
          ·refine run 4 ?_
           refine wbr ho (fun hb62 ho => ?_) fun hb62 ho => ?_
           ·refine zf11 (v := .bool true) (e := .val rBool true) rfl rfl zb9 (.g rfl rfl (gt1 hb62)) rfl rfl rfl .f rfl ?_
            refine run 2 ?_
            cases ho; exact s_nil (lf [] [0,1,2,3,4])
           ·refine run 3 ?_
            cases ho; exact s_nil (lf [] [0,1,2,3,4])
         ·show SRun ..
          cases ho; exact r_ret (zg2 (.inr rfl) (.v rfl .n) (by decide))
        ·refine run 2 ?_
         obtain ⟨c66,hc66,ho⟩ := bnd ho
         refine wcx c66 [] (fun t => (.normal,fun _ => ([(8,vB (t))],[(v49,.row (rInt .i64) (y46.2.2.1)),(v50,.row (rInt .i64) (y46.2.2.2.1)),(v25,.row (rInt .i64) (t34)),(v23,.row (rInt .i64) (x22)),(v18,.row (rSlice (rInt .i64)) (y17.1))]))) SEL ?_ fun _ => ?_
         ·have ho := hc66
          refine run 4 ?_
          refine wbr ho (fun hb67 ho => ?_) fun hb67 ho => ?_
          ·refine run 5 ?_
           refine wbr ho (fun hb68 ho => ?_) fun hb68 ho => ?_
           ·refine run 8 ?_
            refine wbr ho (fun hb69 ho => ?_) fun hb69 ho => ?_
            ·refine zf11 (v := .bool true) (e := .val rBool true) rfl rfl zb9 (.g rfl rfl (gt1 hb69)) rfl rfl rfl .f rfl ?_
             refine run 2 ?_
             cases ho; exact s_nil (lf [] [0,1,2,3,4])
            ·refine run 3 ?_
             cases ho; exact s_nil (lf [] [0,1,2,3,4])
           ·refine run 11 ?_
            cases ho; exact s_nil (lf [] [0,1,2,3,4])
          ·refine run 16 ?_
           cases ho; exact s_nil (lf [] [0,1,2,3,4])
         ·show SRun ..
          cases ho; exact r_ret (zg2 (.inr rfl) (.v rfl .n) (by decide))⟩
end Go.Ai.TabYtafbcffccnjgfaa
