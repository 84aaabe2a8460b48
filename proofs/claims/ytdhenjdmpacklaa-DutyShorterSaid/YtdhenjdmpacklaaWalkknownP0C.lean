/- Written by program: walks through functions. -/
import Derived.Test.YtdhenjdmpacklaaM5
namespace Go.Ai.TabYtdhenjdmpacklaa
open Go Go.Ai Go.Ai.Sx Go.Proofs
attribute [local irreducible] SOps
set_option maxRecDepth 100000
theorem g_duty_within_ok {n_0 : Int} {low_1 : Int} {high_2 : Int} {out : (Bool)} (ho : g_duty_within n_0 low_1 high_2 = some out) : Fun ktab 52 [.val (rInt .i64) n_0, .val (rInt .i64) low_1, .val (rInt .i64) high_2] [.val rBool (out)] := by
 refine fun_of (F := Try.f52) (by rfl) (by rfl) (by rfl) (fun C hC => ?_)
 delta g_duty_within at ho
 refine rr <| sgb <| nq <| r_seq ?_
 obtain ⟨c2, hc2, ho⟩ := bnd ho
 refine r_cut (τ := (Bool)) (G := Unit) (fun t => (.normal, fun _ => ([(6, .val rBool (t))], []))) (t := c2) ?_ ?_
 ·have ho := hc2
  clear hc2
  refine r_region <| mv rfl <| mv rfl <| cm rfl rfl .geq <| mv rfl ?_
  rcases Bool.eq_false_or_eq_true ((decide (n_0 ≥ low_1))) with hb3 | hb3
  ·have ho := cnd1 ho hb3
   refine mvg (gt1 hb3) rfl rfl rfl <| mvg (gt1 hb3) rfl rfl rfl <| s_cmp (.g rfl rfl (gt1 hb3)) rfl rfl (.t rfl) (.t rfl) .leq <| pk1 hb3 rfl (.t rfl) <| sg rfl ?_
   cases ho
   exact s_nil fun _ _ s => fz () s ⟨rfl, trivial⟩ rfl
  ·have ho := cnd0 ho hb3
   refine skg (gt0 hb3) rfl rfl <| skg (gt0 hb3) rfl rfl <| skg (gt0 hb3) rfl rfl <| pk0 hb3 rfl .b <| sg rfl ?_
   cases ho
   exact s_nil fun _ _ s => fz () s ⟨rfl, trivial⟩ rfl
 ·intro _
  show SRun ..
  cases ho
  exact r_ret (ret_of (.inr rfl) (.v rfl .n) (by decide))
theorem g_slices_IndexFunc_int_int_ok {s_0 : (List Int)} {f_1 : ((Int) → Option (Bool))} {out : (Int)} (ho : g_slices_IndexFunc_int_int s_0 f_1 = some out) : Fun ktab 80 [.val (rSlice (rInt .i64)) s_0, .val (rFn ktab (Int) (Bool) (fun x => [.val (rInt .i64) (x)]) (fun y => [.val rBool (y)])) f_1] [.val (rInt .i64) (out)] := by
 refine fun_of (F := Try.f80) (by rfl) (by rfl) (by rfl) (fun C hC => ?_)
 delta g_slices_IndexFunc_int_int at ho
 refine rr <| sgc (by decide) <| nq <| r_seq <| rr <| mv rfl <| ln S29 rfl rfl rfl (.t rfl) <| mvc (by decide) <| nq <| r_block ?_
 obtain ⟨t11, ht11, ho⟩ := bnd ho
 refine r_loop (σ := (Int)) (τ := Unit ⊕ (Int)) (G := List AVal) (fun s g => ([(0, .val (rSlice (rInt .i64)) (s_0)), (1, .val (rFn ktab (Int) (Bool) (fun x => [.val (rInt .i64) (x)]) (fun y => [.val rBool (y)])) (f_1)), (7, .val (rInt .i64) ((lenI s_0))), (8, .val (rInt .i64) (s))], [])) (altX (fun b => (.exit 0, fun g => ([], []))) (fun b => (.ret, fun g => ([(4, .val (rInt .i64) (b))], [])))) _ [] ht11 (fun fr h s => s.pick [] ⟨rfl, rfl, rfl, rfl, trivial⟩ rfl (by decide)) ?_ ?_ ?_
 ·intro t
  rcases t with t | t
  ·exact nx
  ·exact nr
 ·clear ho
  intro s5 g6 r12 ho
  refine rr <| cm rfl rfl .lss <| nq <| r_seq <| ct rfl (fun hq7 => ?_) (fun hq7 => ?_)
  ·have ho := cnd1 ho hq7
   refine kq rfl <| r_seq <| r_block <| rr <| mv rfl <| sg rfl <| nq <| rr <| mv rfl <| mv rfl <| mv rfl ?_
   obtain ⟨x8, hx8, ho⟩ := bnd ho
   refine ix S29 hx8 rfl rfl <| ld U3 rfl ?_
   obtain ⟨y9, hy9, ho⟩ := bnd ho
   refine s_callv (X := (Int)) (Y := (Bool)) (f := f_1) (x := x8) hy9 (.n rfl) rfl rfl rfl (.t rfl) (.c (.t rfl) .n) ?_
   show SOps ..
   refine nq <| ct rfl (fun hq10 => ?_) (fun hq10 => ?_)
   ·have ho := cnd1 ho hq10
    refine rr <| mv rfl <| sg rfl <| nq ?_
    cases ho
    exact r_ret fun _ _ s => fz [] s ⟨rfl, trivial⟩ rfl
   ·have ho := cnd0 ho hq10
    refine kq rfl <| r_region <| arc rfl (by decide) .add <| mv rfl ?_
    cases ho
    exact s_nil fun _ _ s => fz [] s ⟨rfl, rfl, rfl, rfl, trivial⟩ rfl
  ·have ho := cnd0 ho hq7
   cases ho
   exact r_exit fun _ _ s => fz [] s trivial rfl
 ·clear ht11
  rcases t11 with b13 | b14
  ·have ho := alt_l ho
   intro g15
   show ∀ fr h, St _ [] [] fr h → _
   show SRun ..
   refine rr <| sgc (by decide) <| nq ?_
   cases ho
   exact r_ret (ret_of (.inr rfl) (.v rfl .n) (by decide))
  ·have ho := alt_r ho
   intro g16
   show ∀ fr h, St _ [(4, .val (rInt .i64) (b14))] [] fr h → _
   cases ho
   exact id (ret_of (.inr rfl) (.v rfl .n) (by decide))
theorem g_slices_ContainsFunc_int_int_ok {s_0 : (List Int)} {f_1 : ((Int) → Option (Bool))} {out : (Bool)} (ho : g_slices_ContainsFunc_int_int s_0 f_1 = some out) : Fun ktab 53 [.val (rSlice (rInt .i64)) s_0, .val (rFn ktab (Int) (Bool) (fun x => [.val (rInt .i64) (x)]) (fun y => [.val rBool (y)])) f_1] [.val rBool (out)] := by
 refine fun_of (F := Try.f53) (by rfl) (by rfl) (by rfl) (fun C hC => ?_)
 delta g_slices_ContainsFunc_int_int at ho
 refine rr <| sgb <| nq <| rr <| mv rfl <| mv rfl ?_
 obtain ⟨y1, hy1, ho⟩ := bnd ho
 refine s_calll (g_slices_IndexFunc_int_int_ok hy1) (.v flat_int .n) rfl (.n rfl) rfl rfl rfl .f (.c (.o (.t rfl)) (.c (.o (.t rfl)) .n)) ?_
 show SOps ..
 refine cmc rfl (by decide) .geq <| sg rfl <| nq ?_
 cases ho
 exact r_ret (ret_of (.inr rfl) (.v rfl .n) (by decide))
theorem g_duty_Check_1_ok {d_0 : Int} {out : (Bool)} (ho : g_duty_Check_1 d_0 = some out) : Fun ktab 54 [.val (rInt .i64) d_0] [.val rBool (out)] := by
 refine fun_of (F := Try.f54) (by rfl) (by rfl) (by rfl) (fun C hC => ?_)
 delta g_duty_Check_1 at ho
 refine rr <| sgb <| nq <| rr <| mv rfl ?_
 obtain ⟨y1, hy1, ho⟩ := bnd ho
 refine s_calll (g_duty_within_ok hy1) (.v flat_bool .n) rfl (.n rfl) rfl rfl rfl .f (.c (.o (.t rfl)) (.c (.o (.i (by decide) (by decide))) (.c (.o (.i (by decide) (by decide))) .n))) ?_
 show SOps ..
 refine s_not (.n rfl) rfl rfl (.t rfl) <| sg rfl <| nq ?_
 cases ho
 exact r_ret (ret_of (.inr rfl) (.v rfl .n) (by decide))
theorem g_duty_Check_ok {p_0 : (List Task)} {p_1 : Yard} {out : (Int)} (ho : g_duty_Check p_0 p_1 = some out) : Fun ktab 30 [.val (rSlice rTask) p_0, .val rYard p_1] [.val (rInt .i64) (out)] := by
 refine fun_of (F := Try.f30) (by rfl) (by rfl) (by rfl) (fun C hC => ?_)
 delta g_duty_Check at ho
 refine rr <| bx rfl <| sgc (by decide) <| nq <| rr <| fa F26_2 fk_Yard_2 (by decide) rfl <| ld U24 rfl <| ln S24 rfl rfl rfl (.t rfl) <| sg rfl <| nq <| r_seq <| r_seq ?_
 obtain ⟨c6, hc6, ho⟩ := bnd ho
 refine r_cut (τ := (Bool)) (G := Unit) (fun t => (.normal, fun _ => ([(0, .val (rSlice rTask) (p_0)), (3, .val (rPtr rYard) (p_1)), (5, .val (rInt .i64) ((lenI p_1.2.2.1))), (33, .val rBool (t))], []))) (t := c6) ?_ ?_
 ·have ho := hc6
  clear hc6
  refine r_region <| mv rfl <| ln S22 rfl rfl rfl (.t rfl) <| cmc rfl (by decide) .gtr <| mv rfl ?_
  rcases Bool.eq_false_or_eq_true ((decide ((lenI p_0) > 60))) with hb7 | hb7
  ·have ho := cnd1 ho hb7
   refine skg (gf1 hb7) rfl rfl <| skg (gf1 hb7) rfl rfl <| skg (gf1 hb7) rfl rfl <| pk1 hb7 rfl .b <| mv rfl <| skg rfl rfl rfl <| skg rfl rfl rfl <| skg rfl rfl rfl <| skg rfl rfl rfl <| skg rfl rfl rfl <| pt rfl .b <| mv rfl <| skg rfl rfl rfl <| skg rfl rfl rfl <| skg rfl rfl rfl <| skg rfl rfl rfl <| pt rfl .b ?_
   cases ho
   exact s_nil fun _ _ s => fz () s ⟨rfl, rfl, rfl, rfl, trivial⟩ rfl
  ·have ho := cnd0 ho hb7
   refine mvg (gf0 hb7) rfl rfl rfl ?_
   obtain ⟨y8, hy8, ho⟩ := bnd ho
   refine s_calll (g_duty_within_ok hy8) (.v flat_bool .n) rfl (.g rfl rfl (gf0 hb7)) rfl rfl rfl .f (.c (.o (.t rfl)) (.c (.o (.i (by decide) (by decide))) (.c (.o (.i (by decide) (by decide))) .n))) ?_
   show SOps ..
   refine s_not (.g rfl rfl (gf0 hb7)) rfl rfl (.t rfl) <| pk0 hb7 rfl (.t rfl) <| mv rfl ?_
   rcases Bool.eq_false_or_eq_true ((!y8)) with hb9 | hb9
   ·have ho := cnd1 ho hb9
    refine skg (gf1 hb9) rfl rfl <| skg (gf1 hb9) rfl rfl <| skg (gf1 hb9) rfl rfl <| skg (gf1 hb9) rfl rfl <| skg (gf1 hb9) rfl rfl <| pk1 hb9 rfl .b <| mv rfl <| skg rfl rfl rfl <| skg rfl rfl rfl <| skg rfl rfl rfl <| skg rfl rfl rfl <| pt rfl .b ?_
    cases ho
    exact s_nil fun _ _ s => fz () s ⟨rfl, rfl, rfl, rfl, trivial⟩ rfl
   ·have ho := cnd0 ho hb9
    refine s_fa F26_0 fk_Yard_0 (by decide) (.g rfl rfl (gf0 hb9)) rfl rfl (.t rfl) <| ldg U23 (gf0 hb9) rfl rfl rfl <| s_len S23 (.g rfl rfl (gf0 hb9)) rfl rfl rfl rfl rfl (.t rfl) <| mvg (gf0 hb9) rfl rfl rfl <| s_cmp (.g rfl rfl (gf0 hb9)) rfl rfl (.t rfl) (.t rfl) .neq <| pk0 hb9 rfl (.t rfl) <| mv rfl ?_
    rcases Bool.eq_false_or_eq_true (((lenI p_1.1) != (lenI p_1.2.2.1))) with hb10 | hb10
    ·have ho := cnd1 ho hb10
     refine skg (gf1 hb10) rfl rfl <| skg (gf1 hb10) rfl rfl <| skg (gf1 hb10) rfl rfl <| skg (gf1 hb10) rfl rfl <| pk1 hb10 rfl .b ?_
     cases ho
     exact s_nil fun _ _ s => fz () s ⟨rfl, rfl, rfl, rfl, trivial⟩ rfl
    ·have ho := cnd0 ho hb10
     refine s_fa F26_1 fk_Yard_1 (by decide) (.g rfl rfl (gf0 hb10)) rfl rfl (.t rfl) <| ldg U3 (gf0 hb10) rfl rfl rfl ?_
     obtain ⟨y11, hy11, ho⟩ := bnd ho
     refine s_calll (g_duty_within_ok hy11) (.v flat_bool .n) rfl (.g rfl rfl (gf0 hb10)) rfl rfl rfl .f (.c (.o (.t rfl)) (.c (.o (.i (by decide) (by decide))) (.c (.o (.i (by decide) (by decide))) .n))) ?_
     show SOps ..
     refine s_not (.g rfl rfl (gf0 hb10)) rfl rfl (.t rfl) <| pk0 hb10 rfl (.t rfl) ?_
     cases ho
     exact s_nil fun _ _ s => fz () s ⟨rfl, rfl, rfl, rfl, trivial⟩ rfl
 ·intro _
  show SRun ..
  refine ct rfl (fun hq12 => ?_) (fun hq12 => ?_)
  ·have ho := cnd1 ho hq12
   refine rr <| sgc (by decide) <| nq ?_
   cases ho
   exact r_ret (ret_of (.inr rfl) (.v rfl .n) (by decide))
  ·have ho := cnd0 ho hq12
   refine kq rfl <| r_seq <| rr <| fa F26_0 fk_Yard_0 (by decide) rfl <| ld U23 rfl <| ln S23 rfl rfl rfl (.t rfl) <| mvc (by decide) <| nq <| r_block ?_
   obtain ⟨t41, ht41, ho⟩ := bnd ho
   refine r_loop (σ := (Int)) (τ := Unit ⊕ (Int)) (G := List AVal) (fun s g => ([(0, .val (rSlice rTask) (p_0)), (5, .val (rInt .i64) ((lenI p_1.2.2.1))), (35, .val (rSlice (rSlice (rInt .i64))) (p_1.1)), (36, .val (rInt .i64) ((lenI p_1.1))), (37, .val (rInt .i64) (s))], [])) (altX (fun b => (.exit 0, fun g => ([(0, .val (rSlice rTask) (p_0)), (5, .val (rInt .i64) ((lenI p_1.2.2.1)))], []))) (fun b => (.ret, fun g => ([(4, .val (rInt .i64) (b))], [])))) _ [] ht41 (fun fr h s => s.pick [] ⟨rfl, rfl, rfl, rfl, rfl, trivial⟩ rfl (by decide)) ?_ ?_ ?_
   ·intro t
    rcases t with t | t
    ·exact nx
    ·exact nr
   ·clear ho
    intro s26 g27 r42 ho
    refine rr <| cm rfl rfl .lss <| nq <| r_seq <| ct rfl (fun hq28 => ?_) (fun hq28 => ?_)
    ·have ho := cnd1 ho hq28
     refine kq rfl <| r_seq <| r_block <| rr <| mv rfl ?_
     obtain ⟨x29, hx29, ho⟩ := bnd ho
     refine ix S23 hx29 rfl rfl <| ld U29 rfl <| sg rfl <| sg rfl <| nq <| rr <| mv rfl <| ln S29 rfl rfl rfl (.t rfl) <| mv rfl <| cm rfl rfl .neq <| mv rfl ?_
     rcases Bool.eq_false_or_eq_true (((lenI x29) != (lenI p_1.2.2.1))) with hb34 | hb34
     ·have ho := cnd1 ho hb34
      refine skg (gf1 hb34) rfl rfl <| skg (gf1 hb34) rfl rfl <| skg (gf1 hb34) rfl rfl <| skg (gf1 hb34) rfl rfl <| skg (gf1 hb34) rfl rfl <| pk1 hb34 rfl .b <| mv rfl <| skg rfl rfl rfl <| skg rfl rfl rfl <| pt rfl .b <| nq <| ct rfl (fun _ => ?_) (fun hq => by cases hq)
      refine rr <| sgc (by decide) <| nq ?_
      cases ho
      exact r_ret fun _ _ s => fz [] s ⟨rfl, trivial⟩ rfl
     ·have ho := cnd0 ho hb34
      refine mvg (gf0 hb34) rfl rfl rfl <| mvg (gf0 hb34) rfl rfl rfl ?_
      obtain ⟨x36, hx36, ho⟩ := bnd ho
      refine s_idx S29 hx36 (.g rfl rfl (gf0 hb34)) rfl rfl (.t rfl) (.t rfl) <| ldg U3 (gf0 hb34) rfl rfl rfl <| s_cmp (.g rfl rfl (gf0 hb34)) rfl rfl (.t rfl) (.i (by decide) (by decide)) .neq <| pk0 hb34 rfl (.t rfl) <| mv rfl ?_
      rcases Bool.eq_false_or_eq_true ((x36 != 0)) with hb37 | hb37
      ·have ho := cnd1 ho hb37
       refine skg (gf1 hb37) rfl rfl <| skg (gf1 hb37) rfl rfl <| pk1 hb37 rfl .b <| nq <| ct rfl (fun _ => ?_) (fun hq => by cases hq)
       refine rr <| sgc (by decide) <| nq ?_
       cases ho
       exact r_ret fun _ _ s => fz [] s ⟨rfl, trivial⟩ rfl
      ·have ho := cnd0 ho hb37
       refine mvg (gf0 hb37) rfl rfl rfl ?_
       obtain ⟨y39, hy39, ho⟩ := bnd ho
       refine s_calll (g_slices_ContainsFunc_int_int_ok hy39) (.v flat_bool .n) rfl (.g rfl rfl (gf0 hb37)) rfl rfl rfl .f (.c (.o (.t rfl)) (.c (.o (.fv (opd_fn (fun x y hf => g_duty_Check_1_ok hf) rfl))) .n)) ?_
       show SOps ..
       refine pk0 hb37 rfl (.t rfl) <| nq <| ct rfl (fun hq40 => ?_) (fun hq40 => ?_)
       ·have ho := cnd1 ho hq40
        refine rr <| sgc (by decide) <| nq ?_
        cases ho
        exact r_ret fun _ _ s => fz [] s ⟨rfl, trivial⟩ rfl
       ·have ho := cnd0 ho hq40
        refine kq rfl <| r_region <| arc rfl (by decide) .add <| mv rfl ?_
        cases ho
        exact s_nil fun _ _ s => fz [] s ⟨rfl, rfl, rfl, rfl, rfl, trivial⟩ rfl
    ·have ho := cnd0 ho hq28
     cases ho
     exact r_exit fun _ _ s => fz [] s ⟨rfl, rfl, trivial⟩ rfl
   ·clear ht41
    rcases t41 with b43 | b44
    ·have ho := alt_l ho
     intro g45
     show ∀ fr h, St _ [(0, .val (rSlice rTask) (p_0)), (5, .val (rInt .i64) ((lenI p_1.2.2.1)))] [] fr h → _
     show SRun ..
     refine r_seq <| rr <| mv rfl <| ln S22 rfl rfl rfl (.t rfl) <| mvc (by decide) <| nq <| r_block ?_
     obtain ⟨t104, ht104, ho⟩ := bnd ho
     refine r_loop (σ := (Int)) (τ := Unit ⊕ (Int)) (G := List AVal) (fun s g => ([(0, .val (rSlice rTask) (p_0)), (5, .val (rInt .i64) ((lenI p_1.2.2.1))), (58, .val (rSlice rTask) (p_0)), (59, .val (rInt .i64) ((lenI p_0))), (60, .val (rInt .i64) (s))], [])) (altX (fun b => (.exit 2, fun g => ([], []))) (fun b => (.ret, fun g => ([(4, .val (rInt .i64) (b))], [])))) _ [] ht104 (fun fr h s => s.pick [] ⟨rfl, rfl, rfl, rfl, rfl, trivial⟩ rfl (by decide)) ?_ ?_ ?_
     ·intro t
      rcases t with t | t
      ·exact nx
      ·exact nr
     ·clear ho
      intro s74 g75 r105 ho
      refine rr <| cm rfl rfl .lss <| nq <| r_seq <| ct rfl (fun hq76 => ?_) (fun hq76 => ?_)
      ·have ho := cnd1 ho hq76
       refine kq rfl <| r_seq <| r_block <| rr <| mv rfl ?_
       obtain ⟨x77, hx77, ho⟩ := bnd ho
       refine ix S22 hx77 rfl rfl <| ld U87 rfl <| s_alloc (zv := .agg [.int .i64 0, .int .i64 0, .int .i64 0, .int .i64 0]) (es := [.val (rInt .i64) (0), .val (rInt .i64) (0), .val (rInt .i64) (0), .val (rInt .i64) (0)]) (by kernel_rfl) (fun _ => (okint (okint (okint (okint okn))))) rfl (.n rfl) rfl rfl ?_
       intro b78
       refine sg rfl <| s_storebs 0 U87 rfl (c1 rfl (c1 rfl (c1 rfl (c1 rfl cells_unit)))) (by rfl) (.n rfl) rfl rfl (.t rfl) (.t rfl) (by rfl) <| s_st (st_freezeb (R := rTask) (a := x77) 0 [9] (c1 rfl (c1 rfl (c1 rfl (c1 rfl cells_unit)))) rfl rfl ⟨rfl, trivial⟩) ?_
       refine nq <| r_seq ?_
       refine r_draw [] (by kernel_rfl) ?_
       refine fa F87_0 fk_Task_0 (by decide) rfl <| ld U3 rfl <| mv rfl <| arc rfl (by decide) .sub ?_
       obtain ⟨y89, hy89, ho⟩ := bnd ho
       refine s_calll (g_duty_within_ok hy89) (.v flat_bool .n) rfl (.n rfl) rfl rfl rfl .f (.c (.o (.t rfl)) (.c (.o (.i (by decide) (by decide))) (.c (.o (.t rfl)) .n))) ?_
       show SOps ..
       refine s_not (.n rfl) rfl rfl (.t rfl) <| mv rfl ?_
       rcases Bool.eq_false_or_eq_true ((!y89)) with hb90 | hb90
       ·have ho := cnd1 ho hb90
        refine skg (gf1 hb90) rfl rfl <| skg (gf1 hb90) rfl rfl <| skg (gf1 hb90) rfl rfl <| skg (gf1 hb90) rfl rfl <| skg (gf1 hb90) rfl rfl <| skg (gf1 hb90) rfl rfl <| pk1 hb90 rfl .b <| mv rfl <| skg rfl rfl rfl <| skg rfl rfl rfl <| skg rfl rfl rfl <| skg rfl rfl rfl <| skg rfl rfl rfl <| skg rfl rfl rfl <| pt rfl .b <| mv rfl <| skg rfl rfl rfl <| skg rfl rfl rfl <| skg rfl rfl rfl <| pt rfl .b <| mv rfl <| skg rfl rfl rfl ?_
        refine skg rfl rfl rfl <| skg rfl rfl rfl <| sku rfl rfl <| sku rfl rfl <| sku rfl rfl <| sku rfl rfl <| sku rfl rfl <| sku rfl rfl <| sku rfl rfl <| sku rfl rfl <| sku rfl rfl <| skg rfl rfl rfl <| pt rfl .b <| nq <| ct rfl (fun _ => ?_) (fun hq => by cases hq)
        refine rr <| sgc (by decide) <| nq ?_
        cases ho
        exact r_ret fun _ _ s => fz [] s ⟨rfl, trivial⟩ rfl
       ·have ho := cnd0 ho hb90
        refine s_fa F87_1 fk_Task_1 (by decide) (.g rfl rfl (gf0 hb90)) rfl rfl (.t rfl) <| ldg U3 (gf0 hb90) rfl rfl rfl <| mvg (gf0 hb90) rfl rfl rfl <| s_ar (.g rfl rfl (gf0 hb90)) rfl rfl (.t rfl) (.i (by decide) (by decide)) .sub ?_
        obtain ⟨y92, hy92, ho⟩ := bnd ho
        refine s_calll (g_duty_within_ok hy92) (.v flat_bool .n) rfl (.g rfl rfl (gf0 hb90)) rfl rfl rfl .f (.c (.o (.t rfl)) (.c (.o (.i (by decide) (by decide))) (.c (.o (.t rfl)) .n))) ?_
        show SOps ..
        refine s_not (.g rfl rfl (gf0 hb90)) rfl rfl (.t rfl) <| pk0 hb90 rfl (.t rfl) <| mv rfl ?_
        rcases Bool.eq_false_or_eq_true ((!y92)) with hb93 | hb93
        ·have ho := cnd1 ho hb93
         refine skg (gf1 hb93) rfl rfl <| skg (gf1 hb93) rfl rfl <| skg (gf1 hb93) rfl rfl <| skg (gf1 hb93) rfl rfl <| skg (gf1 hb93) rfl rfl <| skg (gf1 hb93) rfl rfl <| pk1 hb93 rfl .b <| mv rfl <| skg rfl rfl rfl <| skg rfl rfl rfl <| skg rfl rfl rfl <| pt rfl .b <| mv rfl <| skg rfl rfl rfl <| skg rfl rfl rfl <| skg rfl rfl rfl <| sku rfl rfl <| sku rfl rfl <| sku rfl rfl <| sku rfl rfl <| sku rfl rfl <| sku rfl rfl ?_
         refine sku rfl rfl <| sku rfl rfl <| sku rfl rfl <| skg rfl rfl rfl <| pt rfl .b <| nq <| ct rfl (fun _ => ?_) (fun hq => by cases hq)
         refine rr <| sgc (by decide) <| nq ?_
         cases ho
         exact r_ret fun _ _ s => fz [] s ⟨rfl, trivial⟩ rfl
        ·have ho := cnd0 ho hb93
         refine s_fa F87_2 fk_Task_2 (by decide) (.g rfl rfl (gf0 hb93)) rfl rfl (.t rfl) <| ldg U3 (gf0 hb93) rfl rfl rfl <| s_fa F87_3 fk_Task_3 (by decide) (.g rfl rfl (gf0 hb93)) rfl rfl (.t rfl) <| ldg U3 (gf0 hb93) rfl rfl rfl ?_
         obtain ⟨y95, hy95, ho⟩ := bnd ho
         refine s_calll (g_duty_within_ok hy95) (.v flat_bool .n) rfl (.g rfl rfl (gf0 hb93)) rfl rfl rfl .f (.c (.o (.t rfl)) (.c (.o (.i (by decide) (by decide))) (.c (.o (.t rfl)) .n))) ?_
         show SOps ..
         refine s_not (.g rfl rfl (gf0 hb93)) rfl rfl (.t rfl) <| pk0 hb93 rfl (.t rfl) <| mv rfl ?_
         rcases Bool.eq_false_or_eq_true ((!y95)) with hb96 | hb96
         ·have ho := cnd1 ho hb96
          refine skg (gf1 hb96) rfl rfl <| skg (gf1 hb96) rfl rfl <| skg (gf1 hb96) rfl rfl <| pk1 hb96 rfl .b <| mv rfl <| skg rfl rfl rfl <| skg rfl rfl rfl <| skg rfl rfl rfl <| sku rfl rfl <| sku rfl rfl <| sku rfl rfl <| sku rfl rfl <| sku rfl rfl <| sku rfl rfl <| sku rfl rfl <| sku rfl rfl <| sku rfl rfl <| skg rfl rfl rfl <| pt rfl .b <| nq <| ct rfl (fun _ => ?_) (fun hq => by cases hq)
          refine rr <| sgc (by decide) <| nq ?_
          cases ho
          exact r_ret fun _ _ s => fz [] s ⟨rfl, trivial⟩ rfl
         ·have ho := cnd0 ho hb96
          refine s_fa F87_3 fk_Task_3 (by decide) (.g rfl rfl (gf0 hb96)) rfl rfl (.t rfl) <| ldg U3 (gf0 hb96) rfl rfl rfl <| s_cmp (.g rfl rfl (gf0 hb96)) rfl rfl (.t rfl) (.i (by decide) (by decide)) .gtr <| pk0 hb96 rfl (.t rfl) <| mv rfl ?_
          rcases Bool.eq_false_or_eq_true ((decide (x77.2.2.2.1 > 200000))) with hb98 | hb98
          ·have ho := cnd1 ho hb98
           refine skg (gf1 hb98) rfl rfl <| skg (gf1 hb98) rfl rfl <| skg (gf1 hb98) rfl rfl <| sku rfl rfl <| sku rfl rfl <| sku rfl rfl <| sku rfl rfl <| sku rfl rfl <| sku rfl rfl <| sku rfl rfl <| sku rfl rfl <| sku rfl rfl <| skg (gf1 hb98) rfl rfl <| pk1 hb98 rfl .b <| nq <| ct rfl (fun _ => ?_) (fun hq => by cases hq)
           refine rr <| sgc (by decide) <| nq ?_
           cases ho
           exact r_ret fun _ _ s => fz [] s ⟨rfl, trivial⟩ rfl
          ·have ho := cnd0 ho hb98
           refine mvg (gf0 hb98) rfl rfl rfl <| s_cmp (.g rfl rfl (gf0 hb98)) rfl rfl (.t rfl) (.i (by decide) (by decide)) .gtr <| mvg (gf0 hb98) rfl rfl rfl ?_
           rcases Bool.eq_false_or_eq_true ((decide (s74 > 0))) with hb100 | hb100
           ·have ho := cnd1 ho hb100
            refine s_fa F87_2 fk_Task_2 (by decide) (.g rfl rfl (gt1 hb100)) rfl rfl (.t rfl) <| ldg U3 (gt1 hb100) rfl rfl rfl <| mvg (gt1 hb100) rfl rfl rfl <| mvg (gt1 hb100) rfl rfl rfl <| s_ar (.g rfl rfl (gt1 hb100)) rfl rfl (.t rfl) (.i (by decide) (by decide)) .sub ?_
            obtain ⟨x101, hx101, ho⟩ := bnd ho
            refine s_idx S22 hx101 (.g rfl rfl (gt1 hb100)) rfl rfl (.t rfl) (.t rfl) <| s_fa F87_2 fk_Task_2 (by decide) (.g rfl rfl (gt1 hb100)) rfl rfl (.t rfl) <| ldg U3 (gt1 hb100) rfl rfl rfl <| s_cmp (.g rfl rfl (gt1 hb100)) rfl rfl (.t rfl) (.t rfl) .lss <| s_pk1 hb100 (.g rfl rfl (gf0 hb98)) rfl rfl (.t rfl) (.t rfl) <| pk0 hb98 rfl (.t rfl) <| nq <| ct rfl (fun hq102 => ?_) (fun hq102 => ?_)
            ·have ho := cnd1 ho hq102
             refine rr <| sgc (by decide) <| nq ?_
             cases ho
             exact r_ret fun _ _ s => fz [] s ⟨rfl, trivial⟩ rfl
            ·have ho := cnd0 ho hq102
             refine kq rfl <| r_region <| arc rfl (by decide) .add <| mv rfl ?_
             cases ho
             exact s_nil fun _ _ s => fz [] s ⟨rfl, rfl, rfl, rfl, rfl, trivial⟩ rfl
           ·have ho := cnd0 ho hb100
            refine skg (gt0 hb100) rfl rfl <| skg (gt0 hb100) rfl rfl <| skg (gt0 hb100) rfl rfl <| skg (gt0 hb100) rfl rfl <| skg (gt0 hb100) rfl rfl <| skg (gt0 hb100) rfl rfl <| skg (gt0 hb100) rfl rfl <| skg (gt0 hb100) rfl rfl <| skg (gt0 hb100) rfl rfl <| s_pk0 hb100 (.g rfl rfl (gf0 hb98)) rfl rfl (.t rfl) .b <| pk0 hb98 rfl (.t rfl) <| nq <| ct rfl (fun hq => by cases hq) (fun _ => ?_)
            refine kq rfl <| r_region <| arc rfl (by decide) .add <| mv rfl ?_
            cases ho
            exact s_nil fun _ _ s => fz [] s ⟨rfl, rfl, rfl, rfl, rfl, trivial⟩ rfl
      ·have ho := cnd0 ho hq76
       cases ho
       exact r_exit fun _ _ s => fz [] s trivial rfl
     ·clear ht104
      rcases t104 with b106 | b107
      ·have ho := alt_l ho
       intro g108
       show ∀ fr h, St _ [] [] fr h → _
       show SRun ..
       refine rr <| sgc (by decide) <| nq ?_
       cases ho
       exact r_ret (ret_of (.inr rfl) (.v rfl .n) (by decide))
      ·have ho := alt_r ho
       intro g109
       show ∀ fr h, St _ [(4, .val (rInt .i64) (b107))] [] fr h → _
       cases ho
       exact id (ret_of (.inr rfl) (.v rfl .n) (by decide))
    ·have ho := alt_r ho
     intro g110
     show ∀ fr h, St _ [(4, .val (rInt .i64) (b44))] [] fr h → _
     cases ho
     exact id (ret_of (.inr rfl) (.v rfl .n) (by decide))
theorem g_duty_work_follows_ok {w_0 : duty_work} {a_1 : Int} {b_2 : Int} {out : (Bool)} (ho : g_duty_work_follows w_0 a_1 b_2 = some out) : Fun ktab 41 [.val (rPtr rduty_work) w_0, .val (rInt .i64) a_1, .val (rInt .i64) b_2] [.val rBool (out)] := by
 refine fun_of (F := Try.f41) (by rfl) (by rfl) (by rfl) (fun C hC => ?_)
 delta g_duty_work_follows at ho
 refine rr <| sgb <| nq <| r_seq ?_
 refine r_draw [] (by kernel_rfl) ?_
 refine mv rfl <| nk rfl <| fa F81_0 fk_duty_work_0 (by decide) rfl <| ld U22 rfl <| mv rfl ?_
 obtain ⟨x1, hx1, ho⟩ := bnd ho
 refine ix S22 hx1 rfl rfl <| ld U87 rfl <| mv rfl <| nk rfl <| fa F81_0 fk_duty_work_0 (by decide) rfl <| ld U22 rfl <| mv rfl ?_
 obtain ⟨x2, hx2, ho⟩ := bnd ho
 refine ix S22 hx2 rfl rfl <| ld U87 rfl <| s_alloc (zv := .agg [.int .i64 0, .int .i64 0, .int .i64 0, .int .i64 0]) (es := [.val (rInt .i64) (0), .val (rInt .i64) (0), .val (rInt .i64) (0), .val (rInt .i64) (0)]) (by kernel_rfl) (fun _ => (okint (okint (okint (okint okn))))) rfl (.n rfl) rfl rfl ?_
 intro b3
 refine s_alloc (zv := .agg [.int .i64 0, .int .i64 0, .int .i64 0, .int .i64 0]) (es := [.val (rInt .i64) (0), .val (rInt .i64) (0), .val (rInt .i64) (0), .val (rInt .i64) (0)]) (by kernel_rfl) (fun _ => (okint (okint (okint (okint okn))))) rfl (.n rfl) rfl rfl ?_
 intro b5
 refine s_storebs 1 U87 rfl (c1 rfl (c1 rfl (c1 rfl (c1 rfl cells_unit)))) (by rfl) (.n rfl) rfl rfl (.t rfl) (.t rfl) (by rfl) <| s_st (st_freezeb (R := rTask) (a := x1) 1 [7] (c1 rfl (c1 rfl (c1 rfl (c1 rfl cells_unit)))) rfl rfl ⟨rfl, trivial⟩) ?_
 refine s_storebs 0 U87 rfl (c1 rfl (c1 rfl (c1 rfl (c1 rfl cells_unit)))) (by rfl) (.n rfl) rfl rfl (.t rfl) (.t rfl) (by rfl) <| s_st (st_freezeb (R := rTask) (a := x2) 0 [8] (c1 rfl (c1 rfl (c1 rfl (c1 rfl cells_unit)))) rfl rfl ⟨rfl, trivial⟩) ?_
 refine nq <| r_seq ?_
 refine r_draw [] (by kernel_rfl) ?_
 refine mv rfl <| nk rfl <| fa F81_1 fk_duty_work_1 (by decide) rfl <| fa F26_0 fk_Yard_0 (by decide) rfl <| ld U23 rfl <| fa F87_1 fk_Task_1 (by decide) rfl <| ld U3 rfl ?_
 obtain ⟨x7, hx7, ho⟩ := bnd ho
 refine ix S23 hx7 rfl rfl <| ld U29 rfl <| fa F87_0 fk_Task_0 (by decide) rfl <| ld U3 rfl ?_
 obtain ⟨x8, hx8, ho⟩ := bnd ho
 refine ix S29 hx8 rfl rfl <| ld U3 rfl <| sg rfl <| nq <| r_seq ?_
 obtain ⟨c11, hc11, ho⟩ := bnd ho
 refine r_cut (τ := (Bool)) (G := Unit) (fun t => (.normal, fun _ => ([(6, .val rBool (t))], []))) (t := c11) ?_ ?_
 ·have ho := hc11
  clear hc11
  refine r_draw [] (by kernel_rfl) ?_
  refine mv rfl <| mv rfl <| cm rfl rfl .lss <| mv rfl ?_
  rcases Bool.eq_false_or_eq_true ((decide (a_1 < b_2))) with hb12 | hb12
  ·have ho := cnd1 ho hb12
   refine mvg (gt1 hb12) rfl rfl rfl <| s_cmp (.g rfl rfl (gt1 hb12)) rfl rfl (.t rfl) (.i (by decide) (by decide)) .geq <| pk1 hb12 rfl (.t rfl) <| mv rfl ?_
   rcases Bool.eq_false_or_eq_true ((decide (x8 ≥ 0))) with hb13 | hb13
   ·have ho := cnd1 ho hb13
    refine s_fa F87_3 fk_Task_3 (by decide) (.g rfl rfl (gt1 hb13)) rfl rfl (.t rfl) <| ldg U3 (gt1 hb13) rfl rfl rfl <| mvg (gt1 hb13) rfl rfl rfl <| s_nilck (.g rfl rfl (gt1 hb13)) rfl rfl (.t rfl) <| s_fa F81_1 fk_duty_work_1 (by decide) (.g rfl rfl (gt1 hb13)) rfl rfl (.t rfl) <| s_fa F26_1 fk_Yard_1 (by decide) (.g rfl rfl (gt1 hb13)) rfl rfl (.t rfl) <| ldg U3 (gt1 hb13) rfl rfl rfl <| s_ar (.g rfl rfl (gt1 hb13)) rfl rfl (.t rfl) (.t rfl) .add ?_
    refine mvg (gt1 hb13) rfl rfl rfl <| s_ar (.g rfl rfl (gt1 hb13)) rfl rfl (.t rfl) (.t rfl) .add <| s_fa F87_2 fk_Task_2 (by decide) (.g rfl rfl (gt1 hb13)) rfl rfl (.t rfl) <| ldg U3 (gt1 hb13) rfl rfl rfl <| s_cmp (.g rfl rfl (gt1 hb13)) rfl rfl (.t rfl) (.t rfl) .leq <| pk1 hb13 rfl (.t rfl) <| sg rfl ?_
    cases ho
    exact s_nil fun _ _ s => fz () s ⟨rfl, trivial⟩ rfl
   ·have ho := cnd0 ho hb13
    refine skg (gt0 hb13) rfl rfl <| skg (gt0 hb13) rfl rfl <| skg (gt0 hb13) rfl rfl <| skg (gt0 hb13) rfl rfl <| skg (gt0 hb13) rfl rfl <| skg (gt0 hb13) rfl rfl <| skg (gt0 hb13) rfl rfl <| skg (gt0 hb13) rfl rfl <| skg (gt0 hb13) rfl rfl <| skg (gt0 hb13) rfl rfl <| skg (gt0 hb13) rfl rfl <| skg (gt0 hb13) rfl rfl <| skg (gt0 hb13) rfl rfl <| pk0 hb13 rfl .b <| sg rfl ?_
    cases ho
    exact s_nil fun _ _ s => fz () s ⟨rfl, trivial⟩ rfl
  ·have ho := cnd0 ho hb12
   refine skg (gt0 hb12) rfl rfl <| skg (gt0 hb12) rfl rfl <| pk0 hb12 rfl .b <| mv rfl <| skg rfl rfl rfl <| skg rfl rfl rfl <| skg rfl rfl rfl <| skg rfl rfl rfl <| skg rfl rfl rfl <| skg rfl rfl rfl <| skg rfl rfl rfl <| skg rfl rfl rfl <| skg rfl rfl rfl <| skg rfl rfl rfl <| skg rfl rfl rfl <| skg rfl rfl rfl <| skg rfl rfl rfl <| s_pick0 (.n rfl) rfl rfl (.t rfl) .b <| sg rfl ?_
   cases ho
   exact s_nil fun _ _ s => fz () s ⟨rfl, trivial⟩ rfl
 ·intro _
  show SRun ..
  cases ho
  exact r_ret (ret_of (.inr rfl) (.v rfl .n) (by decide))
theorem g_slices_Index_int_int_ok {s_0 : (List Int)} {v_1 : Int} {out : (Int)} (ho : g_slices_Index_int_int s_0 v_1 = some out) : Fun ktab 82 [.val (rSlice (rInt .i64)) s_0, .val (rInt .i64) v_1] [.val (rInt .i64) (out)] := by
 refine fun_of (F := Try.f82) (by rfl) (by rfl) (by rfl) (fun C hC => ?_)
 delta g_slices_Index_int_int at ho
 refine rr <| sgc (by decide) <| nq <| r_seq <| rr <| mv rfl <| ln S29 rfl rfl rfl (.t rfl) <| mvc (by decide) <| nq <| r_block ?_
 obtain ⟨t9, ht9, ho⟩ := bnd ho
 refine r_loop (σ := (Int)) (τ := Unit ⊕ (Int)) (G := List AVal) (fun s g => ([(0, .val (rSlice (rInt .i64)) (s_0)), (1, .val (rInt .i64) (v_1)), (7, .val (rInt .i64) ((lenI s_0))), (8, .val (rInt .i64) (s))], [])) (altX (fun b => (.exit 0, fun g => ([], []))) (fun b => (.ret, fun g => ([(4, .val (rInt .i64) (b))], [])))) _ [] ht9 (fun fr h s => s.pick [] ⟨rfl, rfl, rfl, rfl, trivial⟩ rfl (by decide)) ?_ ?_ ?_
 ·intro t
  rcases t with t | t
  ·exact nx
  ·exact nr
 ·clear ho
  intro s4 g5 r10 ho
  refine rr <| cm rfl rfl .lss <| nq <| r_seq <| ct rfl (fun hq6 => ?_) (fun hq6 => ?_)
  ·have ho := cnd1 ho hq6
   refine kq rfl <| r_seq <| r_block <| rr <| mv rfl <| sg rfl <| nq <| rr <| mv rfl <| mv rfl <| mv rfl ?_
   obtain ⟨x7, hx7, ho⟩ := bnd ho
   refine ix S29 hx7 rfl rfl <| ld U3 rfl <| cm rfl rfl .eql <| nq <| ct rfl (fun hq8 => ?_) (fun hq8 => ?_)
   ·have ho := cnd1 ho hq8
    refine rr <| mv rfl <| sg rfl <| nq ?_
    cases ho
    exact r_ret fun _ _ s => fz [] s ⟨rfl, trivial⟩ rfl
   ·have ho := cnd0 ho hq8
    refine kq rfl <| r_region <| arc rfl (by decide) .add <| mv rfl ?_
    cases ho
    exact s_nil fun _ _ s => fz [] s ⟨rfl, rfl, rfl, rfl, trivial⟩ rfl
  ·have ho := cnd0 ho hq6
   cases ho
   exact r_exit fun _ _ s => fz [] s trivial rfl
 ·clear ht9
  rcases t9 with b11 | b12
  ·have ho := alt_l ho
   intro g13
   show ∀ fr h, St _ [] [] fr h → _
   show SRun ..
   refine rr <| sgc (by decide) <| nq ?_
   cases ho
   exact r_ret (ret_of (.inr rfl) (.v rfl .n) (by decide))
  ·have ho := alt_r ho
   intro g14
   show ∀ fr h, St _ [(4, .val (rInt .i64) (b12))] [] fr h → _
   cases ho
   exact id (ret_of (.inr rfl) (.v rfl .n) (by decide))
theorem g_slices_Contains_int_int_ok {s_0 : (List Int)} {v_1 : Int} {out : (Bool)} (ho : g_slices_Contains_int_int s_0 v_1 = some out) : Fun ktab 58 [.val (rSlice (rInt .i64)) s_0, .val (rInt .i64) v_1] [.val rBool (out)] := by
 refine fun_of (F := Try.f58) (by rfl) (by rfl) (by rfl) (fun C hC => ?_)
 delta g_slices_Contains_int_int at ho
 refine rr <| sgb <| nq <| rr <| mv rfl <| mv rfl ?_
 obtain ⟨y1, hy1, ho⟩ := bnd ho
 refine s_calll (g_slices_Index_int_int_ok hy1) (.v flat_int .n) rfl (.n rfl) rfl rfl rfl .f (.c (.o (.t rfl)) (.c (.o (.t rfl)) .n)) ?_
 show SOps ..
 refine cmc rfl (by decide) .geq <| sg rfl <| nq ?_
 cases ho
 exact r_ret (ret_of (.inr rfl) (.v rfl .n) (by decide))
theorem g_duty_work_matched_1_body_ok  {rec : Int → Int → (List Bool) → (List Bool) → duty_work → (List Int) → Option ((Bool) × (List Bool) × (List Int))}  (hrec : ∀ {a_0 : Int} {p_1 : Int} {p_2 : (List Bool)} {p_3 : (List Bool)} {p_4 : duty_work} {p_5 : (List Int)} {out : ((Bool) × (List Bool) × (List Int))}, rec a_0 p_1 p_2 p_3 p_4 p_5 = some out → ∀ (b_3 : Nat) (hv_3_0 : AVal) (b_5 : Nat) (hv_5_0 : AVal), FunM ktab 83 [.val (rInt .i64) a_0, .val (rPtr (rInt .i64)) p_1, .val (rPtr (rSlice rBool)) p_2, .raw (.ptr b_3 0), .val (rPtr (rPtr rduty_work)) p_4, .raw (.ptr b_5 0), .val (rSelfP 83 [.val (rPtr (rInt .i64)) (p_1), .val (rPtr (rSlice rBool)) (p_2), .raw (.ptr b_3 0), .val (rPtr (rPtr rduty_work)) (p_4), .raw (.ptr b_5 0)]) ()] [(.ptr b_3 0, .box [.raw hv_3_0]), (hv_3_0, .row rBool (p_3)), (.ptr b_5 0, .box [.raw hv_5_0]), (hv_5_0, .row (rInt .i64) (p_5))] [.val rBool (out.1)] (fun γ => [(.ptr b_3 0, .box [.raw ((gh γ 0))]), ((gh γ 0), .row rBool (out.2.1)), (.ptr b_5 0, .box [.raw ((gh γ 1))]), ((gh γ 1), .row (rInt .i64) (out.2.2))])) {a_0 : Int} {p_1 : Int} {p_2 : (List Bool)} {p_3 : (List Bool)} {p_4 : duty_work} {p_5 : (List Int)} {out : ((Bool) × (List Bool) × (List Int))} (ho : g_duty_work_matched_1_body rec a_0 p_1 p_2 p_3 p_4 p_5 = some out) (b_3 : Nat) (hv_3_0 : AVal) (b_5 : Nat) (hv_5_0 : AVal) : FunM ktab 83 [.val (rInt .i64) a_0, .val (rPtr (rInt .i64)) p_1, .val (rPtr (rSlice rBool)) p_2, .raw (.ptr b_3 0), .val (rPtr (rPtr rduty_work)) p_4, .raw (.ptr b_5 0), .val (rSelfP 83 [.val (rPtr (rInt .i64)) (p_1), .val (rPtr (rSlice rBool)) (p_2), .raw (.ptr b_3 0), .val (rPtr (rPtr rduty_work)) (p_4), .raw (.ptr b_5 0)]) ()] [(.ptr b_3 0, .box [.raw hv_3_0]), (hv_3_0, .row rBool (p_3)), (.ptr b_5 0, .box [.raw hv_5_0]), (hv_5_0, .row (rInt .i64) (p_5))] [.val rBool (out.1)] (fun γ => [(.ptr b_3 0, .box [.raw ((gh γ 0))]), ((gh γ 0), .row rBool (out.2.1)), (.ptr b_5 0, .box [.raw ((gh γ 1))]), ((gh γ 1), .row (rInt .i64) (out.2.2))]) := by
 refine funm_of (F := Try.f83) (by rfl) (by rfl) (by rfl) (fun C => ?_)
 delta g_duty_work_matched_1_body at ho
 refine rr <| sgb <| nq <| r_seq <| rr <| mv rfl <| arc rfl (by decide) .add <| sg rfl <| nq <| r_block ?_
 obtain ⟨t116, ht116, ho⟩ := bnd ho
 refine r_loop (σ := (Int × (List Bool) × (List Int))) (τ := ((List Bool) × (List Int)) ⊕ (Bool × (List Bool) × (List Int))) (G := List AVal) (fun s g => ([(0, .val (rInt .i64) (a_0)), (1, .val (rPtr (rInt .i64)) (p_1)), (2, .val (rPtr (rSlice rBool)) (p_2)), (3, .raw (.ptr b_3 0)), (4, .val (rPtr (rPtr rduty_work)) (p_4)), (5, .raw (.ptr b_5 0)), (6, .val (rSelfP 83 [.val (rPtr (rInt .i64)) (p_1), .val (rPtr (rSlice rBool)) (p_2), .raw (.ptr b_3 0), .val (rPtr (rPtr rduty_work)) (p_4), .raw (.ptr b_5 0)]) ()), (9, .val (rInt .i64) (s.1))], [(.ptr b_3 0, .box [.raw ((gh g 0))]), (.ptr b_5 0, .box [.raw ((gh g 1))]), ((gh g 0), .row rBool (s.2.1)), ((gh g 1), .row (rInt .i64) (s.2.2))])) (altX (fun b => (.exit 0, fun g => ([], [(.ptr b_3 0, .box [.raw ((gh g 0))]), (.ptr b_5 0, .box [.raw ((gh g 1))]), ((gh g 0), .row rBool (b.1)), ((gh g 1), .row (rInt .i64) (b.2))]))) (fun b => (.ret, fun g => ([(8, .val rBool (b.1))], [(.ptr b_3 0, .box [.raw ((gh g 0))]), (.ptr b_5 0, .box [.raw ((gh g 1))]), ((gh g 0), .row rBool (b.2.1)), ((gh g 1), .row (rInt .i64) (b.2.2))])))) _ [hv_3_0, hv_5_0] ht116 (fun fr h s => s.pick [0, 2, 1, 3] ⟨rfl, rfl, rfl, rfl, rfl, rfl, rfl, rfl, trivial⟩ rfl (by decide)) ?_ ?_ ?_
 ·intro t
  rcases t with t | t
  ·exact nx
  ·exact nr
 ·clear ho
  intro s63 g64 r117 ho
  refine r_seq <| rr <| mv rfl <| ld U3 rfl <| cm rfl rfl .lss <| nq <| ct rfl (fun hq73 => ?_) (fun hq73 => ?_)
  ·have ho := cnd1 ho hq73
   refine kq rfl <| r_seq <| r_block <| r_seq <| rr <| ld U24 rfl <| mv rfl ?_
   obtain ⟨x79, hx79, ho⟩ := bnd ho
   refine ix S24 hx79 rfl rfl <| ld U4 rfl <| mv rfl ?_
   rcases Bool.eq_false_or_eq_true (x79) with hb80 | hb80
   ·have ho := cnd1 ho hb80
    refine skg (gf1 hb80) rfl rfl <| skg (gf1 hb80) rfl rfl <| skg (gf1 hb80) rfl rfl <| skg (gf1 hb80) rfl rfl <| pk1 hb80 rfl .b <| mv rfl <| skg rfl rfl rfl <| skg rfl rfl rfl <| skg rfl rfl rfl <| skg rfl rfl rfl <| skg rfl rfl rfl <| pt rfl .b <| nq <| ct rfl (fun _ => ?_) (fun hq => by cases hq)
    refine r_exitq rfl ?_
    refine r_region <| mv rfl <| arc rfl (by decide) .add <| sg rfl ?_
    cases ho
    exact s_nil (fun fr h s => And.intro rfl (Exists.intro [(gh g64 0), (gh g64 1)] (s.pick [0, 1, 2, 3] ⟨rfl, rfl, rfl, rfl, rfl, rfl, rfl, rfl, trivial⟩ rfl (by decide))))
   ·have ho := cnd0 ho hb80
    refine s_loadb 0 (fun _ h => by cases h <;> rfl) (U24).agg rfl (.g rfl rfl (gf0 hb80)) rfl rfl (.t rfl) rfl <| mvg (gf0 hb80) rfl rfl rfl ?_
    obtain ⟨x84, hx84, ho⟩ := bnd ho
    refine s_idxo 2 S24 hx84 (.g rfl rfl (gf0 hb80)) rfl rfl (.t rfl) rfl (.t rfl) <| s_loado 2 (fun _ h => by cases h <;> rfl) U4 FOk.self (idx_inv hx84).2.2.2 (.g rfl rfl (gf0 hb80)) rfl rfl (.t rfl) rfl <| pk0 hb80 rfl (.t rfl) <| mv rfl ?_
    rcases Bool.eq_false_or_eq_true (x84) with hb85 | hb85
    ·have ho := cnd1 ho hb85
     refine skg (gf1 hb85) rfl rfl <| skg (gf1 hb85) rfl rfl <| skg (gf1 hb85) rfl rfl <| skg (gf1 hb85) rfl rfl <| skg (gf1 hb85) rfl rfl <| pk1 hb85 rfl .b <| nq <| ct rfl (fun _ => ?_) (fun hq => by cases hq)
     refine r_exitq rfl ?_
     refine r_region <| mv rfl <| arc rfl (by decide) .add <| sg rfl ?_
     cases ho
     exact s_nil (fun fr h s => And.intro rfl (Exists.intro [(gh g64 0), (gh g64 1)] (s.pick [0, 1, 2, 3] ⟨rfl, rfl, rfl, rfl, rfl, rfl, rfl, rfl, trivial⟩ rfl (by decide))))
    ·have ho := cnd0 ho hb85
     refine ldg U79 (gf0 hb85) rfl rfl rfl <| mvg (gf0 hb85) rfl rfl rfl <| mvg (gf0 hb85) rfl rfl rfl ?_
     obtain ⟨y89, hy89, ho⟩ := bnd ho
     refine s_calll (g_duty_work_follows_ok hy89) (.v flat_bool .n) rfl (.g rfl rfl (gf0 hb85)) rfl rfl rfl .f (.c (.o (.t rfl)) (.c (.o (.t rfl)) (.c (.o (.t rfl)) .n))) ?_
     show SOps ..
     refine s_not (.g rfl rfl (gf0 hb85)) rfl rfl (.t rfl) <| pk0 hb85 rfl (.t rfl) <| nq <| ct rfl (fun hq90 => ?_) (fun hq90 => ?_)
     ·have ho := cnd1 ho hq90
      refine r_exitq rfl ?_
      refine r_region <| mv rfl <| arc rfl (by decide) .add <| sg rfl ?_
      cases ho
      exact s_nil (fun fr h s => And.intro rfl (Exists.intro [(gh g64 0), (gh g64 1)] (s.pick [0, 1, 2, 3] ⟨rfl, rfl, rfl, rfl, rfl, rfl, rfl, rfl, trivial⟩ rfl (by decide))))
     ·have ho := cnd0 ho hq90
      refine kq rfl <| rr <| s_loadb 0 (fun _ h => by cases h <;> rfl) (U24).agg rfl (.n rfl) rfl rfl (.t rfl) rfl <| mv rfl ?_
      obtain ⟨x93, hx93, ho⟩ := bnd ho
      refine s_idxo 2 S24 hx93 (.n rfl) rfl rfl (.t rfl) rfl (.t rfl) <| s_storeo 2 U4 FOk.self (idx_inv hx93).2.2.2 (.n rfl) rfl rfl (.t rfl) .b rfl rfl <| nq <| r_seq ?_
      refine r_draw [0, 3, 7, 10] (by kernel_rfl) ?_
      refine s_loadb 1 (fun _ h => by cases h <;> rfl) (U29).agg rfl (.n rfl) rfl rfl (.t rfl) rfl <| mv rfl ?_
      obtain ⟨x99, hx99, ho⟩ := bnd ho
      refine s_idxo 3 S29 hx99 (.n rfl) rfl rfl (.t rfl) rfl (.t rfl) <| s_loado 3 (fun _ h => by cases h <;> rfl) U3 FOk.self (idx_inv hx99).2.2.2 (.n rfl) rfl rfl (.t rfl) rfl <| cmc rfl (by decide) .lss <| mv rfl ?_
      rcases Bool.eq_false_or_eq_true ((decide (x99 < 0))) with hb100 | hb100
      ·have ho := cnd1 ho hb100
       refine skg (gf1 hb100) rfl rfl <| skg (gf1 hb100) rfl rfl <| skg (gf1 hb100) rfl rfl <| skg (gf1 hb100) rfl rfl <| skg (gf1 hb100) rfl rfl <| skg (gf1 hb100) rfl rfl <| pk1 hb100 rfl .b <| nq <| ct rfl (fun _ => ?_) (fun hq => by cases hq)
       refine rr <| s_loadb 1 (fun _ h => by cases h <;> rfl) (U29).agg rfl (.n rfl) rfl rfl (.t rfl) rfl <| mv rfl <| mv rfl ?_
       obtain ⟨x102, hx102, ho⟩ := bnd ho
       refine s_idxo 3 S29 hx102 (.n rfl) rfl rfl (.t rfl) rfl (.t rfl) <| s_storeo 3 U3 FOk.self (idx_inv hx102).2.2.2 (.n rfl) rfl rfl (.t rfl) (.t rfl) rfl rfl <| nq <| rr <| sgb <| nq ?_
       cases ho
       exact r_ret (fun fr h s => And.intro rfl (Exists.intro [(gh g64 0), (gh g64 1)] (s.pick [0, 1, 2, 3] ⟨rfl, trivial⟩ rfl (by decide))))
      ·have ho := cnd0 ho hb100
       refine s_loadself rfl UR108 (.g rfl rfl (gf0 hb100)) rfl rfl (.t rfl) <| s_loadb 1 (fun _ h => by cases h <;> rfl) (U29).agg rfl (.g rfl rfl (gf0 hb100)) rfl rfl (.t rfl) rfl <| mvg (gf0 hb100) rfl rfl rfl ?_
       obtain ⟨x105, hx105, ho⟩ := bnd ho
       refine s_idxo 3 S29 hx105 (.g rfl rfl (gf0 hb100)) rfl rfl (.t rfl) rfl (.t rfl) <| s_loado 3 (fun _ h => by cases h <;> rfl) U3 FOk.self (idx_inv hx105).2.2.2 (.g rfl rfl (gf0 hb100)) rfl rfl (.t rfl) rfl ?_
       obtain ⟨y106, hy106, ho⟩ := bnd ho
       refine s_callcd (ps := []) (es := [.val (rInt .i64) (x105)]) (cs := [.val (rPtr (rInt .i64)) (p_1), .val (rPtr (rSlice rBool)) (p_2), .raw (.ptr b_3 0), .val (rPtr (rPtr rduty_work)) (p_4), .raw (.ptr b_5 0), .val (rSelfP 83 [.val (rPtr (rInt .i64)) (p_1), .val (rPtr (rSlice rBool)) (p_2), .raw (.ptr b_3 0), .val (rPtr (rPtr rduty_work)) (p_4), .raw (.ptr b_5 0)]) ()]) [0, 2, 1, 3] [] (fun _ h => by cases h <;> exact ⟨by kernel_rfl, by kernel_rfl⟩) (hrec hy106 b_3 ((gh g64 0)) b_5 ((gh g64 1))) rfl rfl (by decide) rfl (.g rfl rfl (gf0 hb100)) rfl rfl rfl (.t rfl) (.c (.t rfl) .n) ?_
       intro g107
       show SOps ..
       refine pk0 hb100 rfl (.t rfl) <| nq <| ct rfl (fun hq108 => ?_) (fun hq108 => ?_)
       ·have ho := cnd1 ho hq108
        refine rr <| s_loadb 2 (fun _ h => by cases h <;> rfl) (U29).agg rfl (.n rfl) rfl rfl (.t rfl) rfl <| mv rfl <| mv rfl ?_
        obtain ⟨x109, hx109, ho⟩ := bnd ho
        refine s_idxo 3 S29 hx109 (.n rfl) rfl rfl (.t rfl) rfl (.t rfl) <| s_storeo 3 U3 FOk.self (idx_inv hx109).2.2.2 (.n rfl) rfl rfl (.t rfl) (.t rfl) rfl rfl <| nq <| rr <| sgb <| nq ?_
        cases ho
        exact r_ret (fun fr h s => And.intro rfl (Exists.intro [(gh g107 0), (gh g107 1)] (s.pick [0, 2, 1, 3] ⟨rfl, trivial⟩ rfl (by decide))))
       ·have ho := cnd0 ho hq108
        refine kq rfl <| r_region <| mv rfl <| arc rfl (by decide) .add <| sg rfl ?_
        cases ho
        exact s_nil (fun fr h s => And.intro rfl (Exists.intro [(gh g107 0), (gh g107 1)] (s.pick [0, 2, 1, 3] ⟨rfl, rfl, rfl, rfl, rfl, rfl, rfl, rfl, trivial⟩ rfl (by decide))))
  ·have ho := cnd0 ho hq73
   cases ho
   exact r_exit (fun fr h s => And.intro rfl (Exists.intro [(gh g64 0), (gh g64 1)] (s.pick [0, 1, 2, 3] trivial rfl (by decide))))
 ·clear ht116
  rcases t116 with b118 | b119
  ·have ho := alt_l ho
   intro g120
   show ∀ fr h, St _ [] [(.ptr b_3 0, .box [.raw ((gh g120 0))]), (.ptr b_5 0, .box [.raw ((gh g120 1))]), ((gh g120 0), .row rBool (b118.1)), ((gh g120 1), .row (rInt .i64) (b118.2))] fr h → _
   show SRun ..
   refine rr <| sgb <| nq ?_
   cases ho
   exact r_ret (retm_of [0, 2, 1, 3] [(gh g120 0), (gh g120 1)] (.inr rfl) (.v rfl .n) rfl (by decide))
  ·have ho := alt_r ho
   intro g123
   show ∀ fr h, St _ [(8, .val rBool (b119.1))] [(.ptr b_3 0, .box [.raw ((gh g123 0))]), (.ptr b_5 0, .box [.raw ((gh g123 1))]), ((gh g123 0), .row rBool (b119.2.1)), ((gh g123 1), .row (rInt .i64) (b119.2.2))] fr h → _
   cases ho
   exact id (retm_of [0, 2, 1, 3] [(gh g123 0), (gh g123 1)] (.inr rfl) (.v rfl .n) rfl (by decide))
theorem g_duty_work_matched_1_ok   {k : Nat} {a_0 : Int} {p_1 : Int} {p_2 : (List Bool)} {p_3 : (List Bool)} {p_4 : duty_work} {p_5 : (List Int)} {out : ((Bool) × (List Bool) × (List Int))} (ho : g_duty_work_matched_1 k a_0 p_1 p_2 p_3 p_4 p_5 = some out) (b_3 : Nat) (hv_3_0 : AVal) (b_5 : Nat) (hv_5_0 : AVal) : FunM ktab 83 [.val (rInt .i64) a_0, .val (rPtr (rInt .i64)) p_1, .val (rPtr (rSlice rBool)) p_2, .raw (.ptr b_3 0), .val (rPtr (rPtr rduty_work)) p_4, .raw (.ptr b_5 0), .val (rSelfP 83 [.val (rPtr (rInt .i64)) (p_1), .val (rPtr (rSlice rBool)) (p_2), .raw (.ptr b_3 0), .val (rPtr (rPtr rduty_work)) (p_4), .raw (.ptr b_5 0)]) ()] [(.ptr b_3 0, .box [.raw hv_3_0]), (hv_3_0, .row rBool (p_3)), (.ptr b_5 0, .box [.raw hv_5_0]), (hv_5_0, .row (rInt .i64) (p_5))] [.val rBool (out.1)] (fun γ => [(.ptr b_3 0, .box [.raw ((gh γ 0))]), ((gh γ 0), .row rBool (out.2.1)), (.ptr b_5 0, .box [.raw ((gh γ 1))]), ((gh γ 1), .row (rInt .i64) (out.2.2))]) := by
 induction k generalizing a_0 p_1 p_2 p_3 p_4 p_5 out b_3 hv_3_0 b_5 hv_5_0 with
 | zero => cases ho
 | succ k ih => exact g_duty_work_matched_1_body_ok (fun h b_3 hv_3_0 b_5 hv_5_0 => ih h b_3 hv_3_0 b_5 hv_5_0) ho b_3 hv_3_0 b_5 hv_5_0
theorem g_duty_work_matched_ok {w_0 : duty_work} {fixed_1 : (List Int)} {out : (Int)} (ho : g_duty_work_matched w_0 fixed_1 = some out) : Fun ktab 61 [.val (rPtr rduty_work) w_0, .val (rSlice (rInt .i64)) fixed_1] [.val (rInt .i64) (out)] := by
 refine fun_of (F := Try.f61) (by rfl) (by rfl) (by rfl) (fun C hC => ?_)
 delta g_duty_work_matched at ho
 refine rr <| bx rfl <| sgc (by decide) <| nq <| rr <| ld U79 rfl <| nk rfl <| fa F81_0 fk_duty_work_0 (by decide) rfl <| ld U22 rfl <| ln S22 rfl rfl rfl (.t rfl) <| s_alloc (zv := .int .i64 0) (es := [.val (rInt .i64) (0)]) (by kernel_rfl) (fun _ => (okint okn)) rfl (.n rfl) rfl rfl ?_
 intro b1
 refine s_storeb 0 (U3).sz rfl (by exact Nat.le_of_ble_eq_true rfl) (.n rfl) rfl rfl (.t rfl) (.t rfl) rfl rfl <| s_st (st_freezeb (R := (rInt .i64)) (a := (lenI w_0.1)) 0 [5] (cells_one rfl) rfl rfl ⟨rfl, trivial⟩) ?_
 refine nq <| rr <| ld U3 rfl ?_
 obtain ⟨x3, hx3, ho⟩ := bnd ho
 refine s_mk S29 Y3 Z3 hx3 (.n rfl) rfl rfl (.t rfl) (.t rfl) ?_
 intro v4
 refine s_st (st_nilrow (rInt .i64)) <| s_alloc (zv := .nilslice) (es := [.raw .nilslice]) (by kernel_rfl) (fun _ => (okraw okn)) rfl (.n rfl) rfl rfl ?_
 intro b7
 refine s_storebo 0 2 (U29).sz rfl rfl (by exact Nat.le_of_ble_eq_true rfl) (.n rfl) rfl rfl (.t rfl) (.t rfl) (by rfl) <| nq <| r_seq <| rr <| s_loadb 0 (fun _ h => by cases h <;> rfl) (U29).agg rfl (.n rfl) rfl rfl (.t rfl) rfl <| s_leno 2 S29 (.n rfl) rfl rfl rfl rfl rfl (.t rfl) rfl <| mvc (by decide) <| nq <| r_block ?_
 obtain ⟨t24, ht24, ho⟩ := bnd ho
 refine r_loop (σ := (Int × (List Int))) (τ := ((List Int))) (G := List AVal) (fun s g => ([(1, .val (rSlice (rInt .i64)) (fixed_1)), (2, .val (rPtr (rPtr rduty_work)) (w_0)), (5, .val (rPtr (rInt .i64)) ((lenI w_0.1))), (6, .raw (.ptr b7 0)), (23, .val (rInt .i64) ((lenI x3))), (24, .val (rInt .i64) (s.1))], [(.ptr b7 0, .box [.raw ((gh g 0))]), ((gh g 0), .row (rInt .i64) (s.2))])) (fun b => (.exit 0, fun g => ([(1, .val (rSlice (rInt .i64)) (fixed_1)), (2, .val (rPtr (rPtr rduty_work)) (w_0)), (5, .val (rPtr (rInt .i64)) ((lenI w_0.1))), (6, .raw (.ptr b7 0))], [(.ptr b7 0, .box [.raw ((gh g 0))]), ((gh g 0), .row (rInt .i64) (b))]))) _ [v4] ht24 (fun fr h s => s.pick [0, 2] ⟨rfl, rfl, rfl, rfl, rfl, rfl, trivial⟩ rfl (by decide)) ?_ ?_ ?_
 ·intro t
  exact nx
 ·clear ho
  intro s15 g16 r25 ho
  refine rr <| cm rfl rfl .lss <| nq <| r_seq <| ct rfl (fun hq20 => ?_) (fun hq20 => ?_)
  ·have ho := cnd1 ho hq20
   refine kq rfl <| r_seq <| r_block <| rr <| mv rfl <| sg rfl <| nq <| r_region <| s_loadb 0 (fun _ h => by cases h <;> rfl) (U29).agg rfl (.n rfl) rfl rfl (.t rfl) rfl <| mv rfl ?_
   obtain ⟨x21, hx21, ho⟩ := bnd ho
   refine s_idxo 1 S29 hx21 (.n rfl) rfl rfl (.t rfl) rfl (.t rfl) <| s_storeo 1 U3 FOk.self (idx_inv hx21).2.2.2 (.n rfl) rfl rfl (.t rfl) (.i (by decide) (by decide)) rfl rfl <| nq <| r_region <| arc rfl (by decide) .add <| mv rfl ?_
   cases ho
   exact s_nil (fun fr h s => And.intro rfl (Exists.intro [(gh g16 0)] (s.pick [0, 1] ⟨rfl, rfl, rfl, rfl, rfl, rfl, trivial⟩ rfl (by decide))))
  ·have ho := cnd0 ho hq20
   cases ho
   exact r_exit (fun fr h s => And.intro rfl (Exists.intro [(gh g16 0)] (s.pick [0, 1] ⟨rfl, rfl, rfl, rfl, trivial⟩ rfl (by decide))))
 ·intro g26
  show ∀ fr h, St _ [(1, .val (rSlice (rInt .i64)) (fixed_1)), (2, .val (rPtr (rPtr rduty_work)) (w_0)), (5, .val (rPtr (rInt .i64)) ((lenI w_0.1))), (6, .raw (.ptr b7 0))] [(.ptr b7 0, .box [.raw ((gh g26 0))]), ((gh g26 0), .row (rInt .i64) (t24))] fr h → _
  show SRun ..
  refine rr <| sgc (by decide) <| nq <| rr <| ld U3 rfl ?_
  obtain ⟨x28, hx28, ho⟩ := bnd ho
  refine s_mk S24 Y4 Z4 hx28 (.n rfl) rfl rfl (.t rfl) (.t rfl) ?_
  intro v29
  refine s_st (st_nilrow rBool) <| s_alloc (zv := .nilslice) (es := [.raw .nilslice]) (by kernel_rfl) (fun _ => (okraw okn)) rfl (.n rfl) rfl rfl ?_
  intro b32
  refine s_storebo 0 2 (U24).sz rfl rfl (by exact Nat.le_of_ble_eq_true rfl) (.n rfl) rfl rfl (.t rfl) (.t rfl) (by rfl) <| nq <| r_seq <| rr <| mv rfl <| ln S29 rfl rfl rfl (.t rfl) <| mvc (by decide) <| nq <| r_block ?_
  obtain ⟨t56, ht56, ho⟩ := bnd ho
  refine r_loop (σ := (Int × Int × (List Bool))) (τ := (Int × (List Bool))) (G := List AVal) (fun s g => ([(1, .val (rSlice (rInt .i64)) (fixed_1)), (2, .val (rPtr (rPtr rduty_work)) (w_0)), (5, .val (rPtr (rInt .i64)) ((lenI w_0.1))), (6, .raw (.ptr b7 0)), (8, .val (rInt .i64) (s.1)), (9, .raw (.ptr b32 0)), (33, .val (rSlice (rInt .i64)) (fixed_1)), (34, .val (rInt .i64) ((lenI fixed_1))), (35, .val (rInt .i64) (s.2.1))], [(.ptr b32 0, .box [.raw ((gh g 0))]), (.ptr b7 0, .box [.raw ((gh g26 0))]), ((gh g26 0), .row (rInt .i64) (t24)), ((gh g 0), .row rBool (s.2.2))])) (fun b => (.exit 2, fun g => ([(1, .val (rSlice (rInt .i64)) (fixed_1)), (2, .val (rPtr (rPtr rduty_work)) (w_0)), (5, .val (rPtr (rInt .i64)) ((lenI w_0.1))), (6, .raw (.ptr b7 0)), (8, .val (rInt .i64) (b.1)), (9, .raw (.ptr b32 0))], [(.ptr b32 0, .box [.raw ((gh g 0))]), (.ptr b7 0, .box [.raw ((gh g26 0))]), ((gh g26 0), .row (rInt .i64) (t24)), ((gh g 0), .row rBool (b.2))]))) _ [v29] ht56 (fun fr h s => s.pick [0, 3, 4, 2] ⟨rfl, rfl, rfl, rfl, rfl, rfl, rfl, rfl, rfl, trivial⟩ rfl (by decide)) ?_ ?_ ?_
  ·intro t
   exact nx
  ·clear ho
   intro s44 g45 r57 ho
   refine rr <| cm rfl rfl .lss <| nq <| r_seq <| ct rfl (fun hq49 => ?_) (fun hq49 => ?_)
   ·have ho := cnd1 ho hq49
    refine kq rfl <| r_seq <| r_block <| rr ?_
    obtain ⟨x50, hx50, ho⟩ := bnd ho
    refine ix S29 hx50 rfl rfl <| ld U3 rfl <| sg rfl <| nq <| rr <| mv rfl <| ld U3 rfl <| cm rfl rfl .lss <| nq <| ct rfl (fun hq51 => ?_) (fun hq51 => ?_)
    ·have ho := cnd1 ho hq51
     refine rr <| s_loadb 0 (fun _ h => by cases h <;> rfl) (U24).agg rfl (.n rfl) rfl rfl (.t rfl) rfl <| mv rfl ?_
     obtain ⟨x52, hx52, ho⟩ := bnd ho
     refine s_idxo 3 S24 hx52 (.n rfl) rfl rfl (.t rfl) rfl (.t rfl) <| s_storeo 3 U4 FOk.self (idx_inv hx52).2.2.2 (.n rfl) rfl rfl (.t rfl) .b rfl rfl <| nq <| r_region <| mv rfl <| arc rfl (by decide) .add <| sg rfl <| nq <| r_region <| arc rfl (by decide) .add <| mv rfl ?_
     cases ho
     exact s_nil (fun fr h s => And.intro rfl (Exists.intro [(gh g45 0)] (s.pick [0, 1, 2, 3] ⟨rfl, rfl, rfl, rfl, rfl, rfl, rfl, rfl, rfl, trivial⟩ rfl (by decide))))
    ·have ho := cnd0 ho hq51
     refine kq rfl <| r_region <| arc rfl (by decide) .add <| mv rfl ?_
     cases ho
     exact s_nil (fun fr h s => And.intro rfl (Exists.intro [(gh g45 0)] (s.pick [0, 1, 2, 3] ⟨rfl, rfl, rfl, rfl, rfl, rfl, rfl, rfl, rfl, trivial⟩ rfl (by decide))))
   ·have ho := cnd0 ho hq49
    cases ho
    exact r_exit (fun fr h s => And.intro rfl (Exists.intro [(gh g45 0)] (s.pick [0, 1, 2, 3] ⟨rfl, rfl, rfl, rfl, rfl, rfl, trivial⟩ rfl (by decide))))
  ·intro g58
   show ∀ fr h, St _ [(1, .val (rSlice (rInt .i64)) (fixed_1)), (2, .val (rPtr (rPtr rduty_work)) (w_0)), (5, .val (rPtr (rInt .i64)) ((lenI w_0.1))), (6, .raw (.ptr b7 0)), (8, .val (rInt .i64) (t56.1)), (9, .raw (.ptr b32 0))] [(.ptr b32 0, .box [.raw ((gh g58 0))]), (.ptr b7 0, .box [.raw ((gh g26 0))]), ((gh g26 0), .row (rInt .i64) (t24)), ((gh g58 0), .row rBool (t56.2))] fr h → _
   show SRun ..
   refine rr <| s_st (st_nilrow rBool) <| s_alloc (zv := .nilslice) (es := [.raw .nilslice]) (by kernel_rfl) (fun _ => (okraw okn)) rfl (.n rfl) rfl rfl ?_
   intro b61
   refine nq <| rr <| s_alloc (zv := .nilfunc) (es := [.raw (.nilfunc)]) (by kernel_rfl) (fun _ => (okraw okn)) rfl (.n rfl) rfl rfl ?_
   intro b63
   refine nq <| rr <| s_st (st_freezec 6 3 (q := 0) [] rfl rfl rfl rfl (by rfl) trivial) ?_
   refine s_st (st_freezeb (R := (rSlice rBool)) (a := t56.2) 3 [9] (cells_one rfl) rfl rfl ⟨rfl, trivial⟩) ?_
   refine s_mkclo (.n rfl) rfl rfl .n (.c (.t rfl) (.c (.t rfl) (.c (.t rfl) (.c (.t rfl) (.c (.t rfl) (.c (.t rfl) .n)))))) <| s_storeb 0 (UR108).sz rfl (by exact Nat.le_of_ble_eq_true rfl) (.n rfl) rfl rfl (.t rfl) (.t rfl) rfl rfl <| s_st (st_freezeg 0 [13] (self_box (g := 83) (cs := [.val (rPtr (rInt .i64)) ((lenI w_0.1)), .val (rPtr (rSlice rBool)) (t56.2), .raw (.ptr b61 0), .val (rPtr (rPtr rduty_work)) (w_0), .raw (.ptr b7 0)]) rfl) rfl rfl ⟨rfl, trivial⟩) ?_
   refine nq <| r_seq <| rr <| mv rfl <| ln S29 rfl rfl rfl (.t rfl) <| sg rfl <| nq <| r_block ?_
   obtain ⟨t104, ht104, ho⟩ := bnd ho
   refine r_loop (σ := (Int × Int × (List Bool) × (List Int))) (τ := (Int × (List Bool) × (List Int))) (G := List AVal) (fun s g => ([(5, .val (rPtr (rInt .i64)) ((lenI w_0.1))), (8, .val (rInt .i64) (s.1)), (12, .raw (.ptr b61 0)), (13, .val (rSelfP 83 [.val (rPtr (rInt .i64)) ((lenI w_0.1)), .val (rPtr (rSlice rBool)) (t56.2), .raw (.ptr b61 0), .val (rPtr (rPtr rduty_work)) (w_0), .raw (.ptr b7 0)]) ()), (14, .val (rInt .i64) (s.2.1))], [(.ptr b61 0, .box [.raw ((gh g 0))]), (.ptr b7 0, .box [.raw ((gh g 1))]), ((gh g 0), .row rBool (s.2.2.1)), ((gh g 1), .row (rInt .i64) (s.2.2.2))])) (fun b => (.exit 4, fun g => ([(8, .val (rInt .i64) (b.1))], []))) _ [.nilslice, (gh g26 0)] ht104 (fun fr h s => s.pick [0, 2, 1, 3] ⟨rfl, rfl, rfl, rfl, rfl, trivial⟩ rfl (by decide)) ?_ ?_ ?_
   ·intro t
    exact nx
   ·clear ho
    intro s83 g84 r105 ho
    refine r_seq <| rr <| mv rfl <| ld U3 rfl <| cm rfl rfl .lss <| nq <| ct rfl (fun hq91 => ?_) (fun hq91 => ?_)
    ·have ho := cnd1 ho hq91
     refine kq rfl <| r_seq <| r_block <| rr <| ld U3 rfl ?_
     obtain ⟨x92, hx92, ho⟩ := bnd ho
     refine s_mk S24 Y4 Z4 hx92 (.n rfl) rfl rfl (.t rfl) (.t rfl) ?_
     intro v93
     refine s_storebo 1 0 (U24).sz rfl rfl (by exact Nat.le_of_ble_eq_true rfl) (.n rfl) rfl rfl (.t rfl) (.t rfl) (by rfl) <| nq <| rr <| s_loadself rfl UR108 (.n rfl) rfl rfl (.t rfl) <| mv rfl ?_
     obtain ⟨y95, hy95, ho⟩ := bnd ho
     refine s_callcd (ps := []) (es := [.val (rInt .i64) (s83.2.1)]) (cs := [.val (rPtr (rInt .i64)) ((lenI w_0.1)), .val (rPtr (rSlice rBool)) (t56.2), .raw (.ptr b61 0), .val (rPtr (rPtr rduty_work)) (w_0), .raw (.ptr b7 0), .val (rSelfP 83 [.val (rPtr (rInt .i64)) ((lenI w_0.1)), .val (rPtr (rSlice rBool)) (t56.2), .raw (.ptr b61 0), .val (rPtr (rPtr rduty_work)) (w_0), .raw (.ptr b7 0)]) ()]) [1, 0, 2, 4] [3] (fun _ h => by cases h) (g_duty_work_matched_1_ok hy95 b61 v93 b7 ((gh g84 1))) rfl rfl (by decide) rfl (.n rfl) rfl rfl rfl (.t rfl) (.c (.t rfl) .n) ?_
     intro g96
     show SOps ..
     refine nq <| ct rfl (fun hq97 => ?_) (fun hq97 => ?_)
     ·have ho := cnd1 ho hq97
      refine r_region <| mv rfl <| arc rfl (by decide) .add <| sg rfl <| nq <| r_region <| mv rfl <| arc rfl (by decide) .add <| sg rfl ?_
      cases ho
      exact s_nil (fun fr h s => And.intro rfl (Exists.intro [(gh g96 0), (gh g96 1)] (s.pick [0, 2, 1, 3] ⟨rfl, rfl, rfl, rfl, rfl, trivial⟩ rfl (by decide))))
     ·have ho := cnd0 ho hq97
      refine kq rfl <| r_region <| mv rfl <| arc rfl (by decide) .add <| sg rfl ?_
      cases ho
      exact s_nil (fun fr h s => And.intro rfl (Exists.intro [(gh g96 0), (gh g96 1)] (s.pick [0, 2, 1, 3] ⟨rfl, rfl, rfl, rfl, rfl, trivial⟩ rfl (by decide))))
    ·have ho := cnd0 ho hq91
     cases ho
     exact r_exit fun _ _ s => fz [(gh g84 0), (gh g84 1)] s ⟨rfl, trivial⟩ rfl
   ·intro g106
    show ∀ fr h, St _ [(8, .val (rInt .i64) (t104.1))] [] fr h → _
    show SRun ..
    refine rr <| mv rfl <| sg rfl <| nq ?_
    cases ho
    exact r_ret (ret_of (.inr rfl) (.v rfl .n) (by decide))
theorem g_slices_Clone_int_int_ok {s_0 : (List Int)} {out : (List Int)} (ho : g_slices_Clone_int_int s_0 = some out) : Fun ktab 62 [.val (rSlice (rInt .i64)) s_0] [.row (rInt .i64) out] := by
 refine fun_of (F := Try.f62) (by rfl) (by rfl) (by rfl) (fun C hC => ?_)
 delta g_slices_Clone_int_int at ho
 refine rr <| s_st (st_nilrow (rInt .i64)) <| s_assign (.n rfl) rfl rfl .nilr <| nq <| r_seq <| rr <| mv rfl <| s_isnil S29 (.n rfl) rfl rfl (.t rfl) (fun he => ?_) ?_
 ·subst he
  have e : out = [] := by simp [appO] at ho; first | exact ho | exact ho.symm
  subst e
  refine nq <| ct rfl (fun _ => ?_) (fun hq => by cases hq)
  refine rr <| s_st (st_nilrow (rInt .i64)) <| s_assign (.n rfl) rfl rfl .nilr <| nq ?_
  exact r_ret (ret_of (.inr rfl) (.r 0 rfl rfl .n) (by decide))
 ·refine nq <| ct rfl (fun hq => by cases hq) (fun _ => ?_)
  refine kq rfl <| rr <| s_bso (R := (rInt .i64)) S29 Y3 (.n rfl) rfl rfl (Elts.n (R := (rInt .i64))) rfl (by decide) ?_
  intro v1
  refine mv rfl <| s_app 0 S29 Y3 ho (.n rfl) rfl rfl rfl rfl rfl (.t rfl) rfl (.t rfl) rfl ?_
  intro v2
  refine sg rfl <| nq ?_
  exact r_ret (ret_of (.inr rfl) (.r 0 rfl rfl .n) (by decide))
theorem g_duty_work_followers_ok {w_0 : duty_work} {out : ((List Int))} (ho : g_duty_work_followers w_0 = some out) : Fun ktab 39 [.val (rPtr rduty_work) w_0] [.row (rInt .i64) (out)] := by
 refine fun_of (F := Try.f39) (by rfl) (by rfl) (by rfl) (fun C hC => ?_)
 delta g_duty_work_followers at ho
 refine rr <| s_st (st_nilrow (rInt .i64)) <| s_assign (.n rfl) rfl rfl .nilr <| nq ?_
 refine r_scope (by exact ret_goto) ?_
 refine rr <| mv rfl <| nk rfl <| fa F81_0 fk_duty_work_0 (by decide) rfl <| ld U22 rfl <| ln S22 rfl rfl rfl (.t rfl) <| sg rfl <| nq <| rr <| mv rfl ?_
 obtain ⟨y2, hy2, ho⟩ := bnd ho
 refine s_calll (g_duty_work_matched_ok hy2) (.v flat_int .n) rfl (.n rfl) rfl rfl rfl .f (.c (.o (.t rfl)) (.c (.o .nil) .n)) ?_
 show SOps ..
 refine sg rfl <| nq <| rr <| s_st (st_nilrow (rInt .i64)) <| s_assign (.n rfl) rfl rfl .nilr <| nq <| r_seq ?_
 refine r_labelq rfl ?_
 refine r_seq <| rr <| mv rfl <| mvc (by decide) <| nq <| r_block ?_
 obtain ⟨t172, ht172, ho⟩ := bnd ho
 refine r_loop (σ := ((List Int) × Int)) (τ := ((List Int))) (G := List AVal) (fun s g => ([(0, .val (rPtr rduty_work) (w_0)), (3, .val (rInt .i64) ((lenI w_0.1))), (4, .val (rInt .i64) (y2)), (5, .raw ((gh g 0))), (15, .val (rInt .i64) ((lenI w_0.1))), (16, .val (rInt .i64) (s.2))], [((gh g 0), .row (rInt .i64) (s.1))])) (fun b => (.exit 0, fun g => ([(5, .raw ((gh g 0)))], [((gh g 0), .row (rInt .i64) (b))]))) _ [.nilslice] ht172 (fun fr h s => s.pick [0] ⟨rfl, rfl, rfl, rfl, rfl, rfl, trivial⟩ rfl (by decide)) ?_ ?_ ?_
 ·intro t
  exact nx
 ·clear ho
  intro s85 g86 r173 ho
  refine rr <| cm rfl rfl .lss <| nq <| r_seq <| ct rfl (fun hq90 => ?_) (fun hq90 => ?_)
  ·have ho := cnd1 ho hq90
   refine kq rfl <| r_seq <| r_block <| rr <| mv rfl <| sg rfl <| nq <| r_seq <| rr <| mv rfl <| arc rfl (by decide) .add <| sg rfl <| nq <| r_block ?_
   obtain ⟨t158, ht158, ho⟩ := bnd ho
   refine r_loop (σ := ((List Int) × Int)) (τ := ((List Int) × Int × Bool × Bool × duty_work × Int × (List Int) × (List Int) × Int × Int × Bool) ⊕ ((List Int))) (G := List AVal) (fun s g => ([(0, .val (rPtr rduty_work) (w_0)), (3, .val (rInt .i64) ((lenI w_0.1))), (4, .val (rInt .i64) (y2)), (5, .raw ((gh g 0))), (6, .val (rInt .i64) (s85.2)), (7, .val (rInt .i64) (s.2)), (15, .val (rInt .i64) ((lenI w_0.1))), (16, .val (rInt .i64) (s85.2))], [((gh g 0), .row (rInt .i64) (s.1))])) (altX (fun b => (.exit 1, fun g => ([(0, .val (rPtr rduty_work) (w_0)), (3, .val (rInt .i64) ((lenI w_0.1))), (4, .val (rInt .i64) (y2)), (5, .raw ((gh g 0))), (15, .val (rInt .i64) ((lenI w_0.1))), (16, .val (rInt .i64) (s85.2)), (32, .val (rInt .i64) (b.2.1)), (33, .val rBool (b.2.2.1)), (34, .val rBool (b.2.2.2.1)), (37, .val (rPtr rduty_work) (b.2.2.2.2.1)), (40, .val (rInt .i64) (b.2.2.2.2.2.1)), (41, .val (rSlice (rInt .i64)) (b.2.2.2.2.2.2.1)), (42, .raw ((gh g 1))), (43, .val (rInt .i64) (b.2.2.2.2.2.2.2.2.1)), (44, .val (rInt .i64) (b.2.2.2.2.2.2.2.2.2.1)), (45, .val rBool (b.2.2.2.2.2.2.2.2.2.2))], [((gh g 0), .row (rInt .i64) (b.1)), ((gh g 1), .row (rInt .i64) (b.2.2.2.2.2.2.2.1))]))) (fun b => (.exit 2, fun g => ([(0, .val (rPtr rduty_work) (w_0)), (3, .val (rInt .i64) ((lenI w_0.1))), (4, .val (rInt .i64) (y2)), (5, .raw ((gh g 0))), (15, .val (rInt .i64) ((lenI w_0.1))), (16, .val (rInt .i64) (s85.2))], [((gh g 0), .row (rInt .i64) (b))])))) _ [(gh g86 0)] ht158 (fun fr h s => s.pick [0] ⟨rfl, rfl, rfl, rfl, rfl, rfl, rfl, rfl, trivial⟩ rfl (by decide)) ?_ ?_ ?_
   ·intro t
    rcases t with t | t
    ·exact nx
    ·exact nx
   ·clear ho
    intro s119 g120 r159 ho
    refine r_seq <| rr <| mv rfl <| mv rfl <| cm rfl rfl .lss <| nq <| ct rfl (fun hq126 => ?_) (fun hq126 => ?_)
    ·have ho := cnd1 ho hq126
     refine kq rfl <| r_seq <| r_block <| rr <| mv rfl <| mv rfl <| mv rfl ?_
     obtain ⟨y137, hy137, ho⟩ := bnd ho
     refine s_calll (g_duty_work_follows_ok hy137) (.v flat_bool .n) rfl (.n rfl) rfl rfl rfl .f (.c (.o (.t rfl)) (.c (.o (.t rfl)) (.c (.o (.t rfl)) .n))) ?_
     show SOps ..
     refine mv rfl ?_
     rcases Bool.eq_false_or_eq_true (y137) with hb138 | hb138
     ·have ho := cnd1 ho hb138
      refine mvg (gt1 hb138) rfl rfl rfl <| mvg (gt1 hb138) rfl rfl rfl ?_
      obtain ⟨y139, hy139, ho⟩ := bnd ho
      refine s_calll (g_slices_Contains_int_int_ok hy139) (.v flat_bool .n) rfl (.g rfl rfl (gt1 hb138)) rfl rfl rfl .f (.c (.r 0 (.t rfl) rfl) (.c (.o (.t rfl)) .n)) ?_
      show SOps ..
      refine s_not (.g rfl rfl (gt1 hb138)) rfl rfl (.t rfl) <| pk1 hb138 rfl (.t rfl) <| mv rfl ?_
      rcases Bool.eq_false_or_eq_true ((!y139)) with hb140 | hb140
      ·have ho := cnd1 ho hb140
       refine mvg (gt1 hb140) rfl rfl rfl <| mvg (gt1 hb140) rfl rfl rfl ?_
       obtain ⟨y141, hy141, ho⟩ := bnd ho
       refine s_calll (g_slices_Clone_int_int_ok hy141) (.r flat_int .n) rfl (.g rfl rfl (gt1 hb140)) rfl rfl rfl .f (.c (.r 0 (.t rfl) rfl) .n) ?_
       intro v142
       show SOps ..
       refine mvg (gt1 hb140) rfl rfl rfl <| s_bs (R := (rInt .i64)) S29 Y3 (.g rfl rfl (gt1 hb140)) rfl rfl (.c (.t rfl) .n) rfl (by decide) ?_
       obtain ⟨x144, hx144, ho⟩ := bnd ho
       refine s_app 0 S29 Y3 hx144 (.g rfl rfl (gt1 hb140)) rfl rfl rfl rfl rfl (.t rfl) rfl (.t rfl) rfl ?_
       intro v145
       obtain ⟨y146, hy146, ho⟩ := bnd ho
       refine s_calll (g_duty_work_matched_ok hy146) (.v flat_int .n) rfl (.g rfl rfl (gt1 hb140)) rfl rfl rfl .f (.c (.o (.t rfl)) (.c (.r 0 (.t rfl) rfl) .n)) ?_
       show SOps ..
       refine mvg (gt1 hb140) rfl rfl rfl <| s_cmp (.g rfl rfl (gt1 hb140)) rfl rfl (.t rfl) (.t rfl) .eql <| pk1 hb140 rfl (.t rfl) <| nq <| ct rfl (fun hq147 => ?_) (fun hq147 => ?_)
       ·have ho := cnd1 ho hq147
        refine rr <| mv rfl <| mv rfl <| s_bs (R := (rInt .i64)) S29 Y3 (.n rfl) rfl rfl (.c (.t rfl) .n) rfl (by decide) ?_
        obtain ⟨x148, hx148, ho⟩ := bnd ho
        refine s_app 1 S29 Y3 hx148 (.n rfl) rfl rfl rfl rfl rfl (.t rfl) rfl (.t rfl) rfl ?_
        intro v149
        refine sg rfl <| nq ?_
        cases ho
        exact r_exit (fun fr h s => And.intro rfl (Exists.intro [v149, v145] (s.pick [0, 1] ⟨rfl, rfl, rfl, rfl, rfl, rfl, rfl, rfl, rfl, rfl, rfl, rfl, rfl, rfl, rfl, rfl, trivial⟩ rfl (by decide))))
       ·have ho := cnd0 ho hq147
        refine kq rfl <| r_region <| mv rfl <| arc rfl (by decide) .add <| sg rfl ?_
        cases ho
        exact s_nil (fun fr h s => And.intro rfl (Exists.intro [(gh g120 0)] (s.pick [1] ⟨rfl, rfl, rfl, rfl, rfl, rfl, rfl, rfl, trivial⟩ rfl (by decide))))
      ·have ho := cnd0 ho hb140
       refine skg (gt0 hb140) rfl rfl <| skg (gt0 hb140) rfl rfl <| skg (gt0 hb140) rfl rfl <| skg (gt0 hb140) rfl rfl <| skg (gt0 hb140) rfl rfl <| skg (gt0 hb140) rfl rfl <| skg (gt0 hb140) rfl rfl <| skg (gt0 hb140) rfl rfl <| skg (gt0 hb140) rfl rfl <| pk0 hb140 rfl .b <| nq <| ct rfl (fun hq => by cases hq) (fun _ => ?_)
       refine kq rfl <| r_region <| mv rfl <| arc rfl (by decide) .add <| sg rfl ?_
       cases ho
       exact s_nil (fun fr h s => And.intro rfl (Exists.intro [(gh g120 0)] (s.pick [0] ⟨rfl, rfl, rfl, rfl, rfl, rfl, rfl, rfl, trivial⟩ rfl (by decide))))
     ·have ho := cnd0 ho hb138
      refine skg (gt0 hb138) rfl rfl <| skg (gt0 hb138) rfl rfl <| skg (gt0 hb138) rfl rfl <| skg (gt0 hb138) rfl rfl <| pk0 hb138 rfl .b <| mv rfl <| skg rfl rfl rfl <| skg rfl rfl rfl <| skg rfl rfl rfl <| skg rfl rfl rfl <| skg rfl rfl rfl <| skg rfl rfl rfl <| skg rfl rfl rfl <| skg rfl rfl rfl <| skg rfl rfl rfl <| s_pick0 (.n rfl) rfl rfl (.t rfl) .b <| nq <| ct rfl (fun hq => by cases hq) (fun _ => ?_)
      refine kq rfl <| r_region <| mv rfl <| arc rfl (by decide) .add <| sg rfl ?_
      cases ho
      exact s_nil (fun fr h s => And.intro rfl (Exists.intro [(gh g120 0)] (s.pick [0] ⟨rfl, rfl, rfl, rfl, rfl, rfl, rfl, rfl, trivial⟩ rfl (by decide))))
    ·have ho := cnd0 ho hq126
     cases ho
     exact r_exit (fun fr h s => And.intro rfl (Exists.intro [(gh g120 0)] (s.pick [0] ⟨rfl, rfl, rfl, rfl, rfl, rfl, trivial⟩ rfl (by decide))))
   ·clear ht158
    rcases t158 with b160 | b161
    ·have ho := alt_l ho
     intro g162
     show ∀ fr h, St _ [(0, .val (rPtr rduty_work) (w_0)), (3, .val (rInt .i64) ((lenI w_0.1))), (4, .val (rInt .i64) (y2)), (5, .raw ((gh g162 0))), (15, .val (rInt .i64) ((lenI w_0.1))), (16, .val (rInt .i64) (s85.2)), (32, .val (rInt .i64) (b160.2.1)), (33, .val rBool (b160.2.2.1)), (34, .val rBool (b160.2.2.2.1)), (37, .val (rPtr rduty_work) (b160.2.2.2.2.1)), (40, .val (rInt .i64) (b160.2.2.2.2.2.1)), (41, .val (rSlice (rInt .i64)) (b160.2.2.2.2.2.2.1)), (42, .raw ((gh g162 1))), (43, .val (rInt .i64) (b160.2.2.2.2.2.2.2.2.1)), (44, .val (rInt .i64) (b160.2.2.2.2.2.2.2.2.2.1)), (45, .val rBool (b160.2.2.2.2.2.2.2.2.2.2))] [((gh g162 0), .row (rInt .i64) (b160.1)), ((gh g162 1), .row (rInt .i64) (b160.2.2.2.2.2.2.2.1))] fr h → _
     show SRun ..
     refine r_region <| arc rfl (by decide) .add <| mv rfl ?_
     cases ho
     exact s_nil (fun fr h s => And.intro rfl (Exists.intro [(gh g162 0)] (s.pick [0] ⟨rfl, rfl, rfl, rfl, rfl, rfl, trivial⟩ rfl (by decide))))
    ·have ho := alt_r ho
     intro g166
     show ∀ fr h, St _ [(0, .val (rPtr rduty_work) (w_0)), (3, .val (rInt .i64) ((lenI w_0.1))), (4, .val (rInt .i64) (y2)), (5, .raw ((gh g166 0))), (15, .val (rInt .i64) ((lenI w_0.1))), (16, .val (rInt .i64) (s85.2))] [((gh g166 0), .row (rInt .i64) (b161))] fr h → _
     show SRun ..
     refine r_region <| mv rfl <| mv rfl <| s_bs (R := (rInt .i64)) S29 Y3 (.n rfl) rfl rfl (.c (.t rfl) .n) rfl (by decide) ?_
     obtain ⟨x168, hx168, ho⟩ := bnd ho
     refine s_app 0 S29 Y3 hx168 (.n rfl) rfl rfl rfl rfl rfl (.t rfl) rfl (.t rfl) rfl ?_
     intro v169
     refine sg rfl <| nq <| r_region <| arc rfl (by decide) .add <| mv rfl ?_
     cases ho
     exact s_nil (fun fr h s => And.intro rfl (Exists.intro [v169] (s.pick [0] ⟨rfl, rfl, rfl, rfl, rfl, rfl, trivial⟩ rfl (by decide))))
  ·have ho := cnd0 ho hq90
   cases ho
   exact r_exit (fun fr h s => And.intro rfl (Exists.intro [(gh g86 0)] (s.pick [0] ⟨rfl, trivial⟩ rfl (by decide))))
 ·intro g174
  show ∀ fr h, St _ [(5, .raw ((gh g174 0)))] [((gh g174 0), .row (rInt .i64) (t172))] fr h → _
  show SRun ..
  refine rr <| mv rfl <| sg rfl <| nq ?_
  cases ho
  exact r_ret (ret_of (.inr rfl) (.r 0 rfl rfl .n) (by decide))
theorem g_duty_Cars_1_body_ok  {rec : Int → (List Bool) → Int → duty_work → (List Bool) → (List Int) → Option ((List Bool) × (List Bool))}  (hrec : ∀ {a_0 : Int} {p_1 : (List Bool)} {p_2 : Int} {p_3 : duty_work} {p_4 : (List Bool)} {p_5 : (List Int)} {out : ((List Bool) × (List Bool))}, rec a_0 p_1 p_2 p_3 p_4 p_5 = some out → ∀ (b_1 : Nat) (hv_1_0 : AVal) (b_4 : Nat) (hv_4_0 : AVal), FunM ktab 40 [.val (rInt .i64) a_0, .raw (.ptr b_1 0), .val (rPtr (rInt .i64)) p_2, .val (rPtr (rPtr rduty_work)) p_3, .raw (.ptr b_4 0), .val (rPtr (rSlice (rInt .i64))) p_5, .val (rSelfP 40 [.raw (.ptr b_1 0), .val (rPtr (rInt .i64)) (p_2), .val (rPtr (rPtr rduty_work)) (p_3), .raw (.ptr b_4 0), .val (rPtr (rSlice (rInt .i64))) (p_5)]) ()] [(.ptr b_1 0, .box [.raw hv_1_0]), (hv_1_0, .row rBool (p_1)), (.ptr b_4 0, .box [.raw hv_4_0]), (hv_4_0, .row rBool (p_4))] [] (fun γ => [(.ptr b_1 0, .box [.raw ((gh γ 0))]), ((gh γ 0), .row rBool (out.1)), (.ptr b_4 0, .box [.raw ((gh γ 1))]), ((gh γ 1), .row rBool (out.2))])) {a_0 : Int} {p_1 : (List Bool)} {p_2 : Int} {p_3 : duty_work} {p_4 : (List Bool)} {p_5 : (List Int)} {out : ((List Bool) × (List Bool))} (ho : g_duty_Cars_1_body rec a_0 p_1 p_2 p_3 p_4 p_5 = some out) (b_1 : Nat) (hv_1_0 : AVal) (b_4 : Nat) (hv_4_0 : AVal) : FunM ktab 40 [.val (rInt .i64) a_0, .raw (.ptr b_1 0), .val (rPtr (rInt .i64)) p_2, .val (rPtr (rPtr rduty_work)) p_3, .raw (.ptr b_4 0), .val (rPtr (rSlice (rInt .i64))) p_5, .val (rSelfP 40 [.raw (.ptr b_1 0), .val (rPtr (rInt .i64)) (p_2), .val (rPtr (rPtr rduty_work)) (p_3), .raw (.ptr b_4 0), .val (rPtr (rSlice (rInt .i64))) (p_5)]) ()] [(.ptr b_1 0, .box [.raw hv_1_0]), (hv_1_0, .row rBool (p_1)), (.ptr b_4 0, .box [.raw hv_4_0]), (hv_4_0, .row rBool (p_4))] [] (fun γ => [(.ptr b_1 0, .box [.raw ((gh γ 0))]), ((gh γ 0), .row rBool (out.1)), (.ptr b_4 0, .box [.raw ((gh γ 1))]), ((gh γ 1), .row rBool (out.2))]) := by
 refine funm_of (F := Try.f40) (by rfl) (by rfl) (by rfl) (fun C => ?_)
 delta g_duty_Cars_1_body at ho
 refine r_seq <| rr <| s_loadb 0 (fun _ h => by cases h <;> rfl) (U24).agg rfl (.n rfl) rfl rfl (.t rfl) rfl <| mv rfl ?_
 obtain ⟨x1, hx1, ho⟩ := bnd ho
 refine s_idxo 1 S24 hx1 (.n rfl) rfl rfl (.t rfl) rfl (.t rfl) <| s_loado 1 (fun _ h => by cases h <;> rfl) U4 FOk.self (idx_inv hx1).2.2.2 (.n rfl) rfl rfl (.t rfl) rfl <| nq <| ct rfl (fun hq2 => ?_) (fun hq2 => ?_)
 ·have ho := cnd1 ho hq2
  cases ho
  exact r_ret (retm_of [0, 1, 2, 3] [hv_1_0, hv_4_0] (.inr rfl) .n rfl (by decide))
 ·have ho := cnd0 ho hq2
  refine kq rfl <| rr <| s_loadb 0 (fun _ h => by cases h <;> rfl) (U24).agg rfl (.n rfl) rfl rfl (.t rfl) rfl <| mv rfl ?_
  obtain ⟨x3, hx3, ho⟩ := bnd ho
  refine s_idxo 1 S24 hx3 (.n rfl) rfl rfl (.t rfl) rfl (.t rfl) <| s_storeo 1 U4 FOk.self (idx_inv hx3).2.2.2 (.n rfl) rfl rfl (.t rfl) .b rfl rfl <| nq <| rr <| ld U3 rfl <| mvc (by decide) <| nq <| r_block ?_
  obtain ⟨t71, ht71, ho⟩ := bnd ho
  refine r_loop (σ := (Int × (List Bool) × (List Bool))) (τ := ((List Bool) × (List Bool))) (G := List AVal) (fun s g => ([(0, .val (rInt .i64) (a_0)), (3, .val (rPtr (rPtr rduty_work)) (p_3)), (4, .raw (.ptr b_4 0)), (5, .val (rPtr (rSlice (rInt .i64))) (p_5)), (6, .val (rSelfP 40 [.raw (.ptr b_1 0), .val (rPtr (rInt .i64)) (p_2), .val (rPtr (rPtr rduty_work)) (p_3), .raw (.ptr b_4 0), .val (rPtr (rSlice (rInt .i64))) (p_5)]) ()), (16, .val (rInt .i64) (p_2)), (17, .val (rInt .i64) (s.1))], [(.ptr b_1 0, .box [.raw ((gh g 0))]), (.ptr b_4 0, .box [.raw ((gh g 1))]), ((gh g 0), .row rBool (s.2.1)), ((gh g 1), .row rBool (s.2.2))])) (fun b => (.exit 0, fun g => ([], [(.ptr b_1 0, .box [.raw ((gh g 0))]), (.ptr b_4 0, .box [.raw ((gh g 1))]), ((gh g 0), .row rBool (b.1)), ((gh g 1), .row rBool (b.2))]))) _ [hv_1_0, hv_4_0] ht71 (fun fr h s => s.pick [0, 2, 1, 3] ⟨rfl, rfl, rfl, rfl, rfl, rfl, rfl, trivial⟩ rfl (by decide)) ?_ ?_ ?_
  ·intro t
   exact nx
  ·clear ho
   intro s38 g39 r72 ho
   refine rr <| cm rfl rfl .lss <| nq <| r_seq <| ct rfl (fun hq46 => ?_) (fun hq46 => ?_)
   ·have ho := cnd1 ho hq46
    refine kq rfl <| r_seq <| r_block <| rr <| mv rfl <| sg rfl <| nq <| rr <| ld U79 rfl <| mv rfl <| mv rfl ?_
    obtain ⟨y50, hy50, ho⟩ := bnd ho
    refine s_calll (g_duty_work_follows_ok hy50) (.v flat_bool .n) rfl (.n rfl) rfl rfl rfl .f (.c (.o (.t rfl)) (.c (.o (.t rfl)) (.c (.o (.t rfl)) .n))) ?_
    show SOps ..
    refine mv rfl ?_
    rcases Bool.eq_false_or_eq_true (y50) with hb51 | hb51
    ·have ho := cnd1 ho hb51
     refine s_loadb 1 (fun _ h => by cases h <;> rfl) (U24).agg rfl (.g rfl rfl (gt1 hb51)) rfl rfl (.t rfl) rfl <| mvg (gt1 hb51) rfl rfl rfl ?_
     obtain ⟨x52, hx52, ho⟩ := bnd ho
     refine s_idxo 3 S24 hx52 (.g rfl rfl (gt1 hb51)) rfl rfl (.t rfl) rfl (.t rfl) <| s_loado 3 (fun _ h => by cases h <;> rfl) U4 FOk.self (idx_inv hx52).2.2.2 (.g rfl rfl (gt1 hb51)) rfl rfl (.t rfl) rfl <| s_not (.g rfl rfl (gt1 hb51)) rfl rfl (.t rfl) <| pk1 hb51 rfl (.t rfl) <| nq <| ct rfl (fun hq53 => ?_) (fun hq53 => ?_)
     ·have ho := cnd1 ho hq53
      refine rr <| s_loadb 1 (fun _ h => by cases h <;> rfl) (U24).agg rfl (.n rfl) rfl rfl (.t rfl) rfl <| mv rfl ?_
      obtain ⟨x54, hx54, ho⟩ := bnd ho
      refine s_idxo 3 S24 hx54 (.n rfl) rfl rfl (.t rfl) rfl (.t rfl) <| s_storeo 3 U4 FOk.self (idx_inv hx54).2.2.2 (.n rfl) rfl rfl (.t rfl) .b rfl rfl <| nq <| rr <| ld U29 rfl <| mv rfl ?_
      obtain ⟨x55, hx55, ho⟩ := bnd ho
      refine ix S29 hx55 rfl rfl <| ld U3 rfl <| cmc rfl (by decide) .geq <| nq <| ct rfl (fun hq56 => ?_) (fun hq56 => ?_)
      ·have ho := cnd1 ho hq56
       refine r_draw [] (by kernel_rfl) ?_
       refine s_loadself rfl UR83 (.n rfl) rfl rfl (.t rfl) <| ld U29 rfl <| mv rfl ?_
       obtain ⟨x57, hx57, ho⟩ := bnd ho
       refine ix S29 hx57 rfl rfl <| ld U3 rfl ?_
       obtain ⟨y58, hy58, ho⟩ := bnd ho
       refine s_callcd (ps := []) (es := [.val (rInt .i64) (x57)]) (cs := [.raw (.ptr b_1 0), .val (rPtr (rInt .i64)) (p_2), .val (rPtr (rPtr rduty_work)) (p_3), .raw (.ptr b_4 0), .val (rPtr (rSlice (rInt .i64))) (p_5), .val (rSelfP 40 [.raw (.ptr b_1 0), .val (rPtr (rInt .i64)) (p_2), .val (rPtr (rPtr rduty_work)) (p_3), .raw (.ptr b_4 0), .val (rPtr (rSlice (rInt .i64))) (p_5)]) ()]) [0, 2, 1, 3] [] (fun _ h => by cases h <;> exact ⟨by kernel_rfl, by kernel_rfl⟩) (hrec hy58 b_1 ((gh g39 0)) b_4 ((gh g39 1))) rfl rfl (by decide) rfl (.n rfl) rfl rfl rfl (.t rfl) (.c (.t rfl) .n) ?_
       intro g59
       show SOps ..
       refine nq <| r_region <| arc rfl (by decide) .add <| mv rfl ?_
       cases ho
       exact s_nil (fun fr h s => And.intro rfl (Exists.intro [(gh g59 0), (gh g59 1)] (s.pick [0, 2, 1, 3] ⟨rfl, rfl, rfl, rfl, rfl, rfl, rfl, trivial⟩ rfl (by decide))))
      ·have ho := cnd0 ho hq56
       refine kq rfl <| r_region <| arc rfl (by decide) .add <| mv rfl ?_
       cases ho
       exact s_nil (fun fr h s => And.intro rfl (Exists.intro [(gh g39 0), (gh g39 1)] (s.pick [0, 1, 2, 3] ⟨rfl, rfl, rfl, rfl, rfl, rfl, rfl, trivial⟩ rfl (by decide))))
     ·have ho := cnd0 ho hq53
      refine kq rfl <| r_region <| arc rfl (by decide) .add <| mv rfl ?_
      cases ho
      exact s_nil (fun fr h s => And.intro rfl (Exists.intro [(gh g39 0), (gh g39 1)] (s.pick [0, 1, 2, 3] ⟨rfl, rfl, rfl, rfl, rfl, rfl, rfl, trivial⟩ rfl (by decide))))
    ·have ho := cnd0 ho hb51
     refine skg (gt0 hb51) rfl rfl <| skg (gt0 hb51) rfl rfl <| skg (gt0 hb51) rfl rfl <| skg (gt0 hb51) rfl rfl <| skg (gt0 hb51) rfl rfl <| pk0 hb51 rfl .b <| nq <| ct rfl (fun hq => by cases hq) (fun _ => ?_)
     refine kq rfl <| r_region <| arc rfl (by decide) .add <| mv rfl ?_
     cases ho
     exact s_nil (fun fr h s => And.intro rfl (Exists.intro [(gh g39 0), (gh g39 1)] (s.pick [0, 1, 2, 3] ⟨rfl, rfl, rfl, rfl, rfl, rfl, rfl, trivial⟩ rfl (by decide))))
   ·have ho := cnd0 ho hq46
    cases ho
    exact r_exit (fun fr h s => And.intro rfl (Exists.intro [(gh g39 0), (gh g39 1)] (s.pick [0, 1, 2, 3] trivial rfl (by decide))))
  ·intro g73
   show ∀ fr h, St _ [] [(.ptr b_1 0, .box [.raw ((gh g73 0))]), (.ptr b_4 0, .box [.raw ((gh g73 1))]), ((gh g73 0), .row rBool (t71.1)), ((gh g73 1), .row rBool (t71.2))] fr h → _
   cases ho
   exact id (retm_of [0, 2, 1, 3] [(gh g73 0), (gh g73 1)] (.inl rfl) .n rfl (by decide))
theorem g_duty_Cars_1_ok   {k : Nat} {a_0 : Int} {p_1 : (List Bool)} {p_2 : Int} {p_3 : duty_work} {p_4 : (List Bool)} {p_5 : (List Int)} {out : ((List Bool) × (List Bool))} (ho : g_duty_Cars_1 k a_0 p_1 p_2 p_3 p_4 p_5 = some out) (b_1 : Nat) (hv_1_0 : AVal) (b_4 : Nat) (hv_4_0 : AVal) : FunM ktab 40 [.val (rInt .i64) a_0, .raw (.ptr b_1 0), .val (rPtr (rInt .i64)) p_2, .val (rPtr (rPtr rduty_work)) p_3, .raw (.ptr b_4 0), .val (rPtr (rSlice (rInt .i64))) p_5, .val (rSelfP 40 [.raw (.ptr b_1 0), .val (rPtr (rInt .i64)) (p_2), .val (rPtr (rPtr rduty_work)) (p_3), .raw (.ptr b_4 0), .val (rPtr (rSlice (rInt .i64))) (p_5)]) ()] [(.ptr b_1 0, .box [.raw hv_1_0]), (hv_1_0, .row rBool (p_1)), (.ptr b_4 0, .box [.raw hv_4_0]), (hv_4_0, .row rBool (p_4))] [] (fun γ => [(.ptr b_1 0, .box [.raw ((gh γ 0))]), ((gh γ 0), .row rBool (out.1)), (.ptr b_4 0, .box [.raw ((gh γ 1))]), ((gh γ 1), .row rBool (out.2))]) := by
 induction k generalizing a_0 p_1 p_2 p_3 p_4 p_5 out b_1 hv_1_0 b_4 hv_4_0 with
 | zero => cases ho
 | succ k ih => exact g_duty_Cars_1_body_ok (fun h b_1 hv_1_0 b_4 hv_4_0 => ih h b_1 hv_1_0 b_4 hv_4_0) ho b_1 hv_1_0 b_4 hv_4_0
theorem g_duty_Cars_ok {p_0 : (List Task)} {p_1 : Yard} {out : ((List (List Int)) × DutyProof × Int)} (ho : g_duty_Cars p_0 p_1 = some out) : Fun ktab 14 [.val (rSlice rTask) p_0, .val rYard p_1] [.row (rSlice (rInt .i64)) (out.1), .val rDutyProof (out.2.1), .val (rInt .i64) (out.2.2)] := by
 refine fun_of (F := Try.f14) (by rfl) (by rfl) (by rfl) (fun C hC => ?_)
 delta g_duty_Cars at ho
 refine rr <| bx rfl <| s_st (st_nilrow (rSlice (rInt .i64))) <| s_assign (.n rfl) rfl rfl .nilr <| s_alloc (zv := .agg [.nilslice, .nilslice]) (es := [.val (rSlice (rInt .i64)) ([]), .val (rSlice (rInt .i64)) ([])]) (by kernel_rfl) (fun _ => (oknil (oknil okn))) rfl (.n rfl) rfl rfl ?_
 intro b2
 refine sgc (by decide) <| nq <| r_seq <| rr <| mv rfl <| ld U26 rfl ?_
 obtain ⟨y4, hy4, ho⟩ := bnd ho
 refine s_calll (g_duty_Check_ok hy4) (.v flat_int .n) rfl (.n rfl) rfl rfl rfl .f (.c (.o (.t rfl)) (.c (.o (.t rfl)) .n)) ?_
 show SOps ..
 refine cmc rfl (by decide) .neq <| nq <| ct rfl (fun hq5 => ?_) (fun hq5 => ?_)
 ·have ho := cnd1 ho hq5
  refine rr <| s_build (R := rDutyProof) B31 (.n rfl) rfl rfl rfl (.z (fun _ => znil) (.z (fun _ => znil) (.n rfl))) ?_
  refine s_st (st_nilrow (rSlice (rInt .i64))) <| s_assign (.n rfl) rfl rfl .nilr <| s_storebs 1 U31 rfl (c1 rfl (c1 rfl cells_unit)) (by rfl) (.n rfl) rfl rfl (.t rfl) (.t rfl) (by rfl) <| sgc (by decide) <| nq ?_
  cases ho
  exact r_ret (ret_of (.inr rfl) (.r 0 rfl rfl (.b 1 U31 (c1 rfl (c1 rfl cells_unit)) rfl rfl (.v rfl .n))) (by decide))
 ·have ho := cnd0 ho hq5
  refine kq rfl <| rr <| mv rfl <| ld U26 rfl <| s_build (R := rduty_work) B81 (.n rfl) rfl rfl rfl (.p (.t rfl) rfl (.p (.t rfl) rfl (.n rfl))) ?_
  refine bx rfl <| s_alloc (zv := .nilptr) (es := [.raw (.nilptr)]) (by kernel_rfl) (fun _ => (okraw okn)) rfl (.n rfl) rfl rfl ?_
  intro b7
  refine s_storeb 0 (U79).sz rfl (by exact Nat.le_of_ble_eq_true rfl) (.n rfl) rfl rfl (.t rfl) (.t rfl) rfl rfl <| s_st (st_freezeb (R := (rPtr rduty_work)) (a := ((p_0, p_1, ()) : duty_work)) 0 [7] (cells_one rfl) rfl rfl ⟨rfl, trivial⟩) ?_
  refine nq <| rr <| mv rfl <| ln S22 rfl rfl rfl (.t rfl) <| s_alloc (zv := .int .i64 0) (es := [.val (rInt .i64) (0)]) (by kernel_rfl) (fun _ => (okint okn)) rfl (.n rfl) rfl rfl ?_
  intro b9
  refine s_storeb 0 (U3).sz rfl (by exact Nat.le_of_ble_eq_true rfl) (.n rfl) rfl rfl (.t rfl) (.t rfl) rfl rfl <| s_st (st_freezeb (R := (rInt .i64)) (a := (lenI p_0)) 0 [8] (cells_one rfl) rfl rfl ⟨rfl, trivial⟩) ?_
  refine nq <| rr <| ld U79 rfl ?_
  obtain ⟨y11, hy11, ho⟩ := bnd ho
  refine s_calll (g_duty_work_followers_ok hy11) (.r flat_int .n) rfl (.n rfl) rfl rfl rfl .f (.c (.o (.t rfl)) .n) ?_
  intro v12
  show SOps ..
  refine sg rfl <| nq <| rr <| ld U3 rfl ?_
  obtain ⟨x14, hx14, ho⟩ := bnd ho
  refine s_mk S29 Y3 Z3 hx14 (.n rfl) rfl rfl (.t rfl) (.t rfl) ?_
  intro v15
  refine s_st (st_nilrow (rInt .i64)) <| s_alloc (zv := .nilslice) (es := [.raw .nilslice]) (by kernel_rfl) (fun _ => (okraw okn)) rfl (.n rfl) rfl rfl ?_
  intro b18
  refine s_storebo 0 2 (U29).sz rfl rfl (by exact Nat.le_of_ble_eq_true rfl) (.n rfl) rfl rfl (.t rfl) (.t rfl) (by rfl) <| nq <| r_seq <| rr <| s_loadb 0 (fun _ h => by cases h <;> rfl) (U29).agg rfl (.n rfl) rfl rfl (.t rfl) rfl <| s_leno 2 S29 (.n rfl) rfl rfl rfl rfl rfl (.t rfl) rfl <| mvc (by decide) <| nq <| r_block ?_
  obtain ⟨t35, ht35, ho⟩ := bnd ho
  refine r_loop (σ := (Int × (List Int))) (τ := ((List Int))) (G := List AVal) (fun s g => ([(5, .raw (.ptr b2 0)), (7, .val (rPtr (rPtr rduty_work)) (((p_0, p_1, ()) : duty_work))), (8, .val (rPtr (rInt .i64)) ((lenI p_0))), (9, .raw v12), (10, .raw (.ptr b18 0)), (40, .val (rInt .i64) ((lenI x14))), (41, .val (rInt .i64) (s.1))], [(.ptr b18 0, .box [.raw ((gh g 0))]), (v12, .row (rInt .i64) (y11)), (.ptr b2 0, .box [.val (rSlice (rInt .i64)) ([]), .val (rSlice (rInt .i64)) ([])]), ((gh g 0), .row (rInt .i64) (s.2))])) (fun b => (.exit 0, fun g => ([(5, .raw (.ptr b2 0)), (7, .val (rPtr (rPtr rduty_work)) (((p_0, p_1, ()) : duty_work))), (8, .val (rPtr (rInt .i64)) ((lenI p_0))), (9, .raw v12), (10, .raw (.ptr b18 0))], [(.ptr b18 0, .box [.raw ((gh g 0))]), (v12, .row (rInt .i64) (y11)), (.ptr b2 0, .box [.val (rSlice (rInt .i64)) ([]), .val (rSlice (rInt .i64)) ([])]), ((gh g 0), .row (rInt .i64) (b))]))) _ [v15] ht35 (fun fr h s => s.pick [0, 3, 4, 2] ⟨rfl, rfl, rfl, rfl, rfl, rfl, rfl, trivial⟩ rfl (by decide)) ?_ ?_ ?_
  ·intro t
   exact nx
  ·clear ho
   intro s26 g27 r36 ho
   refine rr <| cm rfl rfl .lss <| nq <| r_seq <| ct rfl (fun hq31 => ?_) (fun hq31 => ?_)
   ·have ho := cnd1 ho hq31
    refine kq rfl <| r_seq <| r_block <| rr <| mv rfl <| sg rfl <| nq <| r_region <| s_loadb 0 (fun _ h => by cases h <;> rfl) (U29).agg rfl (.n rfl) rfl rfl (.t rfl) rfl <| mv rfl ?_
    obtain ⟨x32, hx32, ho⟩ := bnd ho
    refine s_idxo 3 S29 hx32 (.n rfl) rfl rfl (.t rfl) rfl (.t rfl) <| s_storeo 3 U3 FOk.self (idx_inv hx32).2.2.2 (.n rfl) rfl rfl (.t rfl) (.i (by decide) (by decide)) rfl rfl <| nq <| r_region <| arc rfl (by decide) .add <| mv rfl ?_
    cases ho
    exact s_nil (fun fr h s => And.intro rfl (Exists.intro [(gh g27 0)] (s.pick [0, 1, 2, 3] ⟨rfl, rfl, rfl, rfl, rfl, rfl, rfl, trivial⟩ rfl (by decide))))
   ·have ho := cnd0 ho hq31
    cases ho
    exact r_exit (fun fr h s => And.intro rfl (Exists.intro [(gh g27 0)] (s.pick [0, 1, 2, 3] ⟨rfl, rfl, rfl, rfl, rfl, trivial⟩ rfl (by decide))))
  ·intro g37
   show ∀ fr h, St _ [(5, .raw (.ptr b2 0)), (7, .val (rPtr (rPtr rduty_work)) (((p_0, p_1, ()) : duty_work))), (8, .val (rPtr (rInt .i64)) ((lenI p_0))), (9, .raw v12), (10, .raw (.ptr b18 0))] [(.ptr b18 0, .box [.raw ((gh g37 0))]), (v12, .row (rInt .i64) (y11)), (.ptr b2 0, .box [.val (rSlice (rInt .i64)) ([]), .val (rSlice (rInt .i64)) ([])]), ((gh g37 0), .row (rInt .i64) (t35))] fr h → _
   show SRun ..
   refine r_seq <| rr <| mv rfl <| s_leno 1 S29 (.n rfl) rfl rfl rfl rfl rfl (.t rfl) rfl <| mvc (by decide) <| nq <| r_block ?_
   obtain ⟨t61, ht61, ho⟩ := bnd ho
   refine r_loop (σ := (Int × (List Int))) (τ := ((List Int))) (G := List AVal) (fun s g => ([(5, .raw (.ptr b2 0)), (7, .val (rPtr (rPtr rduty_work)) (((p_0, p_1, ()) : duty_work))), (8, .val (rPtr (rInt .i64)) ((lenI p_0))), (9, .raw v12), (10, .raw (.ptr b18 0)), (48, .raw v12), (49, .val (rInt .i64) ((lenI y11))), (50, .val (rInt .i64) (s.1))], [(.ptr b18 0, .box [.raw ((gh g 0))]), (v12, .row (rInt .i64) (y11)), (.ptr b2 0, .box [.val (rSlice (rInt .i64)) ([]), .val (rSlice (rInt .i64)) ([])]), ((gh g 0), .row (rInt .i64) (s.2))])) (fun b => (.exit 2, fun g => ([(5, .raw (.ptr b2 0)), (7, .val (rPtr (rPtr rduty_work)) (((p_0, p_1, ()) : duty_work))), (8, .val (rPtr (rInt .i64)) ((lenI p_0))), (9, .raw v12), (10, .raw (.ptr b18 0))], [(.ptr b18 0, .box [.raw ((gh g 0))]), (v12, .row (rInt .i64) (y11)), (.ptr b2 0, .box [.val (rSlice (rInt .i64)) ([]), .val (rSlice (rInt .i64)) ([])]), ((gh g 0), .row (rInt .i64) (b))]))) _ [(gh g37 0)] ht61 (fun fr h s => s.pick [0, 1, 2, 3] ⟨rfl, rfl, rfl, rfl, rfl, rfl, rfl, rfl, trivial⟩ rfl (by decide)) ?_ ?_ ?_
   ·intro t
    exact nx
   ·clear ho
    intro s49 g50 r62 ho
    refine rr <| cm rfl rfl .lss <| nq <| r_seq <| ct rfl (fun hq54 => ?_) (fun hq54 => ?_)
    ·have ho := cnd1 ho hq54
     refine kq rfl <| r_seq <| r_block <| rr <| mv rfl ?_
     obtain ⟨x55, hx55, ho⟩ := bnd ho
     refine s_idxo 1 S29 hx55 (.n rfl) rfl rfl (.t rfl) rfl (.t rfl) <| s_loado 1 (fun _ h => by cases h <;> rfl) U3 FOk.self (idx_inv hx55).2.2.2 (.n rfl) rfl rfl (.t rfl) rfl <| sg rfl <| sg rfl <| nq <| rr <| mv rfl <| ld U3 rfl <| cm rfl rfl .lss <| nq <| ct rfl (fun hq56 => ?_) (fun hq56 => ?_)
     ·have ho := cnd1 ho hq56
      refine r_region <| s_loadb 0 (fun _ h => by cases h <;> rfl) (U29).agg rfl (.n rfl) rfl rfl (.t rfl) rfl <| mv rfl <| mv rfl ?_
      obtain ⟨x57, hx57, ho⟩ := bnd ho
      refine s_idxo 3 S29 hx57 (.n rfl) rfl rfl (.t rfl) rfl (.t rfl) <| s_storeo 3 U3 FOk.self (idx_inv hx57).2.2.2 (.n rfl) rfl rfl (.t rfl) (.t rfl) rfl rfl <| nq <| r_region <| arc rfl (by decide) .add <| mv rfl ?_
      cases ho
      exact s_nil (fun fr h s => And.intro rfl (Exists.intro [(gh g50 0)] (s.pick [0, 1, 2, 3] ⟨rfl, rfl, rfl, rfl, rfl, rfl, rfl, rfl, trivial⟩ rfl (by decide))))
     ·have ho := cnd0 ho hq56
      refine kq rfl <| r_region <| arc rfl (by decide) .add <| mv rfl ?_
      cases ho
      exact s_nil (fun fr h s => And.intro rfl (Exists.intro [(gh g50 0)] (s.pick [0, 1, 2, 3] ⟨rfl, rfl, rfl, rfl, rfl, rfl, rfl, rfl, trivial⟩ rfl (by decide))))
    ·have ho := cnd0 ho hq54
     cases ho
     exact r_exit (fun fr h s => And.intro rfl (Exists.intro [(gh g50 0)] (s.pick [0, 1, 2, 3] ⟨rfl, rfl, rfl, rfl, rfl, trivial⟩ rfl (by decide))))
   ·intro g63
    show ∀ fr h, St _ [(5, .raw (.ptr b2 0)), (7, .val (rPtr (rPtr rduty_work)) (((p_0, p_1, ()) : duty_work))), (8, .val (rPtr (rInt .i64)) ((lenI p_0))), (9, .raw v12), (10, .raw (.ptr b18 0))] [(.ptr b18 0, .box [.raw ((gh g63 0))]), (v12, .row (rInt .i64) (y11)), (.ptr b2 0, .box [.val (rSlice (rInt .i64)) ([]), .val (rSlice (rInt .i64)) ([])]), ((gh g63 0), .row (rInt .i64) (t61))] fr h → _
    show SRun ..
    refine rr <| s_st (st_nilrow (rSlice (rInt .i64))) <| s_assign (.n rfl) rfl rfl .nilr <| nq <| r_seq <| rr <| ld U3 rfl <| mvc (by decide) <| nq <| r_block ?_
    obtain ⟨t130, ht130, ho⟩ := bnd ho
    refine r_loop (σ := ((List (List Int)) × Int)) (τ := ((List (List Int)))) (G := List AVal) (fun s g => ([(5, .raw (.ptr b2 0)), (7, .val (rPtr (rPtr rduty_work)) (((p_0, p_1, ()) : duty_work))), (8, .val (rPtr (rInt .i64)) ((lenI p_0))), (9, .raw v12), (10, .raw (.ptr b18 0)), (14, .raw ((gh g 0))), (63, .val (rInt .i64) ((lenI p_0))), (64, .val (rInt .i64) (s.2))], [(.ptr b18 0, .box [.raw ((gh g63 0))]), (v12, .row (rInt .i64) (y11)), (.ptr b2 0, .box [.val (rSlice (rInt .i64)) ([]), .val (rSlice (rInt .i64)) ([])]), ((gh g63 0), .row (rInt .i64) (t61)), ((gh g 0), .row (rSlice (rInt .i64)) (s.1))])) (fun b => (.exit 4, fun g => ([(5, .raw (.ptr b2 0)), (7, .val (rPtr (rPtr rduty_work)) (((p_0, p_1, ()) : duty_work))), (8, .val (rPtr (rInt .i64)) ((lenI p_0))), (9, .raw v12), (10, .raw (.ptr b18 0)), (14, .raw ((gh g 0)))], [(.ptr b18 0, .box [.raw ((gh g63 0))]), (v12, .row (rInt .i64) (y11)), (.ptr b2 0, .box [.val (rSlice (rInt .i64)) ([]), .val (rSlice (rInt .i64)) ([])]), ((gh g63 0), .row (rInt .i64) (t61)), ((gh g 0), .row (rSlice (rInt .i64)) (b))]))) _ [.nilslice] ht130 (fun fr h s => s.pick [1, 2, 3, 4, 0] ⟨rfl, rfl, rfl, rfl, rfl, rfl, rfl, rfl, trivial⟩ rfl (by decide)) ?_ ?_ ?_
    ·intro t
     exact nx
    ·clear ho
     intro s95 g96 r131 ho
     refine rr <| cm rfl rfl .lss <| nq <| r_seq <| ct rfl (fun hq100 => ?_) (fun hq100 => ?_)
     ·have ho := cnd1 ho hq100
      refine kq rfl <| r_seq <| r_block <| rr <| mv rfl <| sg rfl <| nq <| r_seq <| rr <| s_loadb 0 (fun _ h => by cases h <;> rfl) (U29).agg rfl (.n rfl) rfl rfl (.t rfl) rfl <| mv rfl ?_
      obtain ⟨x101, hx101, ho⟩ := bnd ho
      refine s_idxo 3 S29 hx101 (.n rfl) rfl rfl (.t rfl) rfl (.t rfl) <| s_loado 3 (fun _ h => by cases h <;> rfl) U3 FOk.self (idx_inv hx101).2.2.2 (.n rfl) rfl rfl (.t rfl) rfl <| cmc rfl (by decide) .geq <| nq <| ct rfl (fun hq102 => ?_) (fun hq102 => ?_)
      ·have ho := cnd1 ho hq102
       refine r_exitq rfl ?_
       refine r_region <| arc rfl (by decide) .add <| mv rfl ?_
       cases ho
       exact s_nil (fun fr h s => And.intro rfl (Exists.intro [(gh g96 0)] (s.pick [0, 1, 2, 3, 4] ⟨rfl, rfl, rfl, rfl, rfl, rfl, rfl, rfl, trivial⟩ rfl (by decide))))
      ·have ho := cnd0 ho hq102
       refine kq rfl <| rr <| s_st (st_nilrow (rInt .i64)) <| s_assign (.n rfl) rfl rfl .nilr <| nq <| r_seq <| rr <| mv rfl <| sg rfl <| nq <| r_block ?_
       obtain ⟨t122, ht122, ho⟩ := bnd ho
       refine r_loop (σ := ((List Int) × Int)) (τ := ((List Int))) (G := List AVal) (fun s g => ([(5, .raw (.ptr b2 0)), (7, .val (rPtr (rPtr rduty_work)) (((p_0, p_1, ()) : duty_work))), (8, .val (rPtr (rInt .i64)) ((lenI p_0))), (9, .raw v12), (10, .raw (.ptr b18 0)), (14, .raw ((gh g96 0))), (16, .raw ((gh g 0))), (17, .val (rInt .i64) (s.2)), (63, .val (rInt .i64) ((lenI p_0))), (64, .val (rInt .i64) (s95.2))], [(.ptr b18 0, .box [.raw ((gh g63 0))]), (v12, .row (rInt .i64) (y11)), (.ptr b2 0, .box [.val (rSlice (rInt .i64)) ([]), .val (rSlice (rInt .i64)) ([])]), ((gh g63 0), .row (rInt .i64) (t61)), ((gh g96 0), .row (rSlice (rInt .i64)) (s95.1)), ((gh g 0), .row (rInt .i64) (s.1))])) (fun b => (.exit 6, fun g => ([(5, .raw (.ptr b2 0)), (7, .val (rPtr (rPtr rduty_work)) (((p_0, p_1, ()) : duty_work))), (8, .val (rPtr (rInt .i64)) ((lenI p_0))), (9, .raw v12), (10, .raw (.ptr b18 0)), (14, .raw ((gh g96 0))), (16, .raw ((gh g 0))), (63, .val (rInt .i64) ((lenI p_0))), (64, .val (rInt .i64) (s95.2))], [(.ptr b18 0, .box [.raw ((gh g63 0))]), (v12, .row (rInt .i64) (y11)), (.ptr b2 0, .box [.val (rSlice (rInt .i64)) ([]), .val (rSlice (rInt .i64)) ([])]), ((gh g63 0), .row (rInt .i64) (t61)), ((gh g96 0), .row (rSlice (rInt .i64)) (s95.1)), ((gh g 0), .row (rInt .i64) (b))]))) _ [.nilslice] ht122 (fun fr h s => s.pick [1, 2, 3, 4, 5, 0] ⟨rfl, rfl, rfl, rfl, rfl, rfl, rfl, rfl, rfl, rfl, trivial⟩ rfl (by decide)) ?_ ?_ ?_
       ·intro t
        exact nx
       ·clear ho
        intro s111 g112 r123 ho
        refine r_seq <| rr <| mv rfl <| ld U3 rfl <| cm rfl rfl .lss <| nq <| ct rfl (fun hq116 => ?_) (fun hq116 => ?_)
        ·have ho := cnd1 ho hq116
         refine kq rfl <| r_seq <| r_block <| r_region <| mv rfl <| mv rfl <| s_bs (R := (rInt .i64)) S29 Y3 (.n rfl) rfl rfl (.c (.t rfl) .n) rfl (by decide) ?_
         obtain ⟨x117, hx117, ho⟩ := bnd ho
         refine s_app 5 S29 Y3 hx117 (.n rfl) rfl rfl rfl rfl rfl (.t rfl) rfl (.t rfl) rfl ?_
         intro v118
         refine sg rfl <| nq <| r_region <| mv rfl <| mv rfl ?_
         obtain ⟨x119, hx119, ho⟩ := bnd ho
         refine s_idxo 2 S29 hx119 (.n rfl) rfl rfl (.t rfl) rfl (.t rfl) <| s_loado 2 (fun _ h => by cases h <;> rfl) U3 FOk.self (idx_inv hx119).2.2.2 (.n rfl) rfl rfl (.t rfl) rfl <| sg rfl ?_
         cases ho
         exact s_nil (fun fr h s => And.intro rfl (Exists.intro [v118] (s.pick [1, 2, 3, 4, 5, 0] ⟨rfl, rfl, rfl, rfl, rfl, rfl, rfl, rfl, rfl, rfl, trivial⟩ rfl (by decide))))
        ·have ho := cnd0 ho hq116
         cases ho
         exact r_exit (fun fr h s => And.intro rfl (Exists.intro [(gh g112 0)] (s.pick [0, 1, 2, 3, 4, 5] ⟨rfl, rfl, rfl, rfl, rfl, rfl, rfl, rfl, rfl, trivial⟩ rfl (by decide))))
       ·intro g124
        show ∀ fr h, St _ [(5, .raw (.ptr b2 0)), (7, .val (rPtr (rPtr rduty_work)) (((p_0, p_1, ()) : duty_work))), (8, .val (rPtr (rInt .i64)) ((lenI p_0))), (9, .raw v12), (10, .raw (.ptr b18 0)), (14, .raw ((gh g96 0))), (16, .raw ((gh g124 0))), (63, .val (rInt .i64) ((lenI p_0))), (64, .val (rInt .i64) (s95.2))] [(.ptr b18 0, .box [.raw ((gh g63 0))]), (v12, .row (rInt .i64) (y11)), (.ptr b2 0, .box [.val (rSlice (rInt .i64)) ([]), .val (rSlice (rInt .i64)) ([])]), ((gh g63 0), .row (rInt .i64) (t61)), ((gh g96 0), .row (rSlice (rInt .i64)) (s95.1)), ((gh g124 0), .row (rInt .i64) (t122))] fr h → _
        show SRun ..
        refine r_region <| mv rfl <| mv rfl <| s_st (st_freeze 5 [16, 85] rfl rfl ⟨rfl, rfl, trivial⟩) <| s_bs (R := (rSlice (rInt .i64))) S23 Y29 (.n rfl) rfl rfl (.c (.t rfl) .n) rfl (by decide) ?_
        obtain ⟨x126, hx126, ho⟩ := bnd ho
        refine s_app 4 S23 Y29 hx126 (.n rfl) rfl rfl rfl rfl rfl (.t rfl) rfl (.t rfl) rfl ?_
        intro v127
        refine sg rfl <| nq <| r_region <| arc rfl (by decide) .add <| mv rfl ?_
        cases ho
        exact s_nil (fun fr h s => And.intro rfl (Exists.intro [v127] (s.pick [1, 2, 3, 4, 0] ⟨rfl, rfl, rfl, rfl, rfl, rfl, rfl, rfl, trivial⟩ rfl (by decide))))
     ·have ho := cnd0 ho hq100
      cases ho
      exact r_exit (fun fr h s => And.intro rfl (Exists.intro [(gh g96 0)] (s.pick [0, 1, 2, 3, 4] ⟨rfl, rfl, rfl, rfl, rfl, rfl, trivial⟩ rfl (by decide))))
    ·intro g132
     show ∀ fr h, St _ [(5, .raw (.ptr b2 0)), (7, .val (rPtr (rPtr rduty_work)) (((p_0, p_1, ()) : duty_work))), (8, .val (rPtr (rInt .i64)) ((lenI p_0))), (9, .raw v12), (10, .raw (.ptr b18 0)), (14, .raw ((gh g132 0)))] [(.ptr b18 0, .box [.raw ((gh g63 0))]), (v12, .row (rInt .i64) (y11)), (.ptr b2 0, .box [.val (rSlice (rInt .i64)) ([]), .val (rSlice (rInt .i64)) ([])]), ((gh g63 0), .row (rInt .i64) (t61)), ((gh g132 0), .row (rSlice (rInt .i64)) (t130))] fr h → _
     show SRun ..
     refine r_seq ?_
     refine r_draw [] (by kernel_rfl) ?_
     refine ld U3 rfl ?_
     obtain ⟨x134, hx134, ho⟩ := bnd ho
     refine s_mk S24 Y4 Z4 hx134 (.n rfl) rfl rfl (.t rfl) (.t rfl) ?_
     intro v135
     refine ld U3 rfl ?_
     obtain ⟨x137, hx137, ho⟩ := bnd ho
     refine s_mk S24 Y4 Z4 hx137 (.n rfl) rfl rfl (.t rfl) (.t rfl) ?_
     intro v138
     refine s_st (st_nilrow rBool) <| s_alloc (zv := .nilslice) (es := [.raw .nilslice]) (by kernel_rfl) (fun _ => (okraw okn)) rfl (.n rfl) rfl rfl ?_
     intro b141
     refine s_st (st_nilrow rBool) <| s_alloc (zv := .nilslice) (es := [.raw .nilslice]) (by kernel_rfl) (fun _ => (okraw okn)) rfl (.n rfl) rfl rfl ?_
     intro b144
     refine s_storebo 2 5 (U24).sz rfl rfl (by exact Nat.le_of_ble_eq_true rfl) (.n rfl) rfl rfl (.t rfl) (.t rfl) (by rfl) <| s_storebo 0 4 (U24).sz rfl rfl (by exact Nat.le_of_ble_eq_true rfl) (.n rfl) rfl rfl (.t rfl) (.t rfl) (by rfl) <| nq <| rr <| s_alloc (zv := .nilfunc) (es := [.raw (.nilfunc)]) (by kernel_rfl) (fun _ => (okraw okn)) rfl (.n rfl) rfl rfl ?_
     intro b146
     refine nq <| rr <| s_st (st_freezec 10 7 (q := 0) [] rfl rfl rfl rfl (by rfl) trivial) ?_
     refine s_st (st_freezeb (R := (rSlice (rInt .i64))) (a := t61) 7 [10] (cells_one rfl) rfl rfl ⟨rfl, trivial⟩) ?_
     refine s_mkclo (.n rfl) rfl rfl .n (.c (.t rfl) (.c (.t rfl) (.c (.t rfl) (.c (.t rfl) (.c (.t rfl) (.c (.t rfl) .n)))))) <| s_storeb 0 (UR83).sz rfl (by exact Nat.le_of_ble_eq_true rfl) (.n rfl) rfl rfl (.t rfl) (.t rfl) rfl rfl <| s_st (st_freezeg 0 [20] (self_box (g := 40) (cs := [.raw (.ptr b141 0), .val (rPtr (rInt .i64)) ((lenI p_0)), .val (rPtr (rPtr rduty_work)) (((p_0, p_1, ()) : duty_work)), .raw (.ptr b144 0), .val (rPtr (rSlice (rInt .i64))) (t61)]) rfl) rfl rfl ⟨rfl, trivial⟩) ?_
     refine nq <| r_seq <| rr <| ld U3 rfl <| mvc (by decide) <| nq <| r_block ?_
     obtain ⟨t181, ht181, ho⟩ := bnd ho
     refine r_loop (σ := (Int × (List Bool) × (List Bool))) (τ := ((List Bool) × (List Bool))) (G := List AVal) (fun s g => ([(5, .raw (.ptr b2 0)), (8, .val (rPtr (rInt .i64)) ((lenI p_0))), (9, .raw v12), (14, .raw ((gh g132 0))), (18, .raw (.ptr b141 0)), (19, .raw (.ptr b144 0)), (20, .val (rSelfP 40 [.raw (.ptr b141 0), .val (rPtr (rInt .i64)) ((lenI p_0)), .val (rPtr (rPtr rduty_work)) (((p_0, p_1, ()) : duty_work)), .raw (.ptr b144 0), .val (rPtr (rSlice (rInt .i64))) (t61)]) ()), (94, .val (rInt .i64) ((lenI p_0))), (95, .val (rInt .i64) (s.1))], [(.ptr b144 0, .box [.raw ((gh g 0))]), (.ptr b141 0, .box [.raw ((gh g 1))]), (v12, .row (rInt .i64) (y11)), (.ptr b2 0, .box [.val (rSlice (rInt .i64)) ([]), .val (rSlice (rInt .i64)) ([])]), ((gh g132 0), .row (rSlice (rInt .i64)) (t130)), ((gh g 0), .row rBool (s.2.1)), ((gh g 1), .row rBool (s.2.2))])) (fun b => (.exit 8, fun g => ([(5, .raw (.ptr b2 0)), (8, .val (rPtr (rInt .i64)) ((lenI p_0))), (14, .raw ((gh g132 0))), (18, .raw (.ptr b141 0)), (19, .raw (.ptr b144 0))], [(.ptr b144 0, .box [.raw ((gh g 0))]), (.ptr b141 0, .box [.raw ((gh g 1))]), (.ptr b2 0, .box [.val (rSlice (rInt .i64)) ([]), .val (rSlice (rInt .i64)) ([])]), ((gh g132 0), .row (rSlice (rInt .i64)) (t130)), ((gh g 0), .row rBool (b.1)), ((gh g 1), .row rBool (b.2))]))) _ [v138, v135] ht181 (fun fr h s => s.pick [0, 2, 6, 7, 8, 4, 5] ⟨rfl, rfl, rfl, rfl, rfl, rfl, rfl, rfl, rfl, trivial⟩ rfl (by decide)) ?_ ?_ ?_
     ·intro t
      exact nx
     ·clear ho
      intro s162 g163 r182 ho
      refine rr <| cm rfl rfl .lss <| nq <| r_seq <| ct rfl (fun hq170 => ?_) (fun hq170 => ?_)
      ·have ho := cnd1 ho hq170
       refine kq rfl <| r_seq <| r_block <| rr <| mv rfl <| sg rfl <| nq <| r_seq ?_
       refine r_draw [3] (by kernel_rfl) ?_
       refine mv rfl <| mv rfl ?_
       obtain ⟨x171, hx171, ho⟩ := bnd ho
       refine s_idxo 2 S29 hx171 (.n rfl) rfl rfl (.t rfl) rfl (.t rfl) <| s_loado 2 (fun _ h => by cases h <;> rfl) U3 FOk.self (idx_inv hx171).2.2.2 (.n rfl) rfl rfl (.t rfl) rfl <| ld U3 rfl <| cm rfl rfl .eql <| nq <| ct rfl (fun hq172 => ?_) (fun hq172 => ?_)
       ·have ho := cnd1 ho hq172
        refine r_region <| s_loadself rfl UR83 (.n rfl) rfl rfl (.t rfl) <| mv rfl ?_
        obtain ⟨y173, hy173, ho⟩ := bnd ho
        refine s_callcd (ps := []) (es := [.val (rInt .i64) (s162.1)]) (cs := [.raw (.ptr b141 0), .val (rPtr (rInt .i64)) ((lenI p_0)), .val (rPtr (rPtr rduty_work)) (((p_0, p_1, ()) : duty_work)), .raw (.ptr b144 0), .val (rPtr (rSlice (rInt .i64))) (t61), .val (rSelfP 40 [.raw (.ptr b141 0), .val (rPtr (rInt .i64)) ((lenI p_0)), .val (rPtr (rPtr rduty_work)) (((p_0, p_1, ()) : duty_work)), .raw (.ptr b144 0), .val (rPtr (rSlice (rInt .i64))) (t61)]) ()]) [1, 6, 0, 5] [2, 3, 4] (fun _ h => by cases h) (g_duty_Cars_1_ok hy173 b141 ((gh g163 1)) b144 ((gh g163 0))) rfl rfl (by decide) rfl (.n rfl) rfl rfl rfl (.t rfl) (.c (.t rfl) .n) ?_
        intro g174
        show SOps ..
        refine nq <| r_region <| arc rfl (by decide) .add <| mv rfl ?_
        cases ho
        exact s_nil (fun fr h s => And.intro rfl (Exists.intro [(gh g174 1), (gh g174 0)] (s.pick [2, 0, 4, 5, 6, 3, 1] ⟨rfl, rfl, rfl, rfl, rfl, rfl, rfl, rfl, rfl, trivial⟩ rfl (by decide))))
       ·have ho := cnd0 ho hq172
        refine kq rfl <| r_region <| arc rfl (by decide) .add <| mv rfl ?_
        cases ho
        exact s_nil (fun fr h s => And.intro rfl (Exists.intro [(gh g163 0), (gh g163 1)] (s.pick [0, 1, 2, 3, 4, 5, 6] ⟨rfl, rfl, rfl, rfl, rfl, rfl, rfl, rfl, rfl, trivial⟩ rfl (by decide))))
      ·have ho := cnd0 ho hq170
       cases ho
       exact r_exit (fun fr h s => And.intro rfl (Exists.intro [(gh g163 0), (gh g163 1)] (s.pick [0, 1, 3, 4, 5, 6] ⟨rfl, rfl, rfl, rfl, rfl, trivial⟩ rfl (by decide))))
     ·intro g183
      show ∀ fr h, St _ [(5, .raw (.ptr b2 0)), (8, .val (rPtr (rInt .i64)) ((lenI p_0))), (14, .raw ((gh g132 0))), (18, .raw (.ptr b141 0)), (19, .raw (.ptr b144 0))] [(.ptr b144 0, .box [.raw ((gh g183 0))]), (.ptr b141 0, .box [.raw ((gh g183 1))]), (.ptr b2 0, .box [.val (rSlice (rInt .i64)) ([]), .val (rSlice (rInt .i64)) ([])]), ((gh g132 0), .row (rSlice (rInt .i64)) (t130)), ((gh g183 0), .row rBool (t181.1)), ((gh g183 1), .row rBool (t181.2))] fr h → _
      show SRun ..
      refine rr <| s_st (st_nilrow (rInt .i64)) <| s_st (st_nilrow (rInt .i64)) <| s_alloc (zv := .agg [.nilslice, .nilslice]) (es := [.raw .nilslice, .raw .nilslice]) (by kernel_rfl) (fun _ => (okraw (okraw okn))) rfl (.n rfl) rfl rfl ?_
      intro b188
      refine nq <| r_seq <| rr <| ld U3 rfl <| mvc (by decide) <| nq <| r_block ?_
      obtain ⟨t251, ht251, ho⟩ := bnd ho
      refine r_loop (σ := (Int × (List Int) × (List Int))) (τ := ((List Int) × (List Int))) (G := List AVal) (fun s g => ([(5, .raw (.ptr b2 0)), (14, .raw ((gh g132 0))), (18, .raw (.ptr b141 0)), (19, .raw (.ptr b144 0)), (22, .raw (.ptr b188 0)), (108, .val (rInt .i64) ((lenI p_0))), (109, .val (rInt .i64) (s.1))], [(.ptr b188 0, .box [.raw ((gh g 1)), .raw ((gh g 0))]), (.ptr b144 0, .box [.raw ((gh g183 0))]), (.ptr b141 0, .box [.raw ((gh g183 1))]), (.ptr b2 0, .box [.val (rSlice (rInt .i64)) ([]), .val (rSlice (rInt .i64)) ([])]), ((gh g132 0), .row (rSlice (rInt .i64)) (t130)), ((gh g183 0), .row rBool (t181.1)), ((gh g183 1), .row rBool (t181.2)), ((gh g 0), .row (rInt .i64) (s.2.1)), ((gh g 1), .row (rInt .i64) (s.2.2))])) (fun b => (.exit 10, fun g => ([(5, .raw (.ptr b2 0)), (14, .raw ((gh g132 0))), (22, .raw (.ptr b188 0))], [(.ptr b188 0, .box [.raw ((gh g 0)), .raw ((gh g 1))]), (.ptr b2 0, .box [.val (rSlice (rInt .i64)) ([]), .val (rSlice (rInt .i64)) ([])]), ((gh g132 0), .row (rSlice (rInt .i64)) (t130)), ((gh g 0), .row (rInt .i64) (b.1)), ((gh g 1), .row (rInt .i64) (b.2))]))) _ [.nilslice, .nilslice] ht251 (fun fr h s => s.pick [0, 3, 4, 5, 6, 7, 8, 1, 2] ⟨rfl, rfl, rfl, rfl, rfl, rfl, rfl, trivial⟩ rfl (by decide)) ?_ ?_ ?_
      ·intro t
       exact nx
      ·clear ho
       intro s220 g221 r252 ho
       refine rr <| cm rfl rfl .lss <| nq <| r_seq <| ct rfl (fun hq228 => ?_) (fun hq228 => ?_)
       ·have ho := cnd1 ho hq228
        refine kq rfl <| r_seq <| r_block <| rr <| mv rfl <| sg rfl <| nq <| r_seq <| rr <| s_loadb 2 (fun _ h => by cases h <;> rfl) (U24).agg rfl (.n rfl) rfl rfl (.t rfl) rfl <| mv rfl ?_
        obtain ⟨x229, hx229, ho⟩ := bnd ho
        refine s_idxo 6 S24 hx229 (.n rfl) rfl rfl (.t rfl) rfl (.t rfl) <| s_loado 6 (fun _ h => by cases h <;> rfl) U4 FOk.self (idx_inv hx229).2.2.2 (.n rfl) rfl rfl (.t rfl) rfl <| s_not (.n rfl) rfl rfl (.t rfl) <| nq <| ct rfl (fun hq230 => ?_) (fun hq230 => ?_)
        ·have ho := cnd1 ho hq230
         refine r_region <| faw F31_0 (by decide) rfl <| s_loadb 0 (fun _ h => by cases h <;> rfl) (U29).agg rfl (.n rfl) rfl rfl (.t rfl) rfl <| mv rfl <| s_bs (R := (rInt .i64)) S29 Y3 (.n rfl) rfl rfl (.c (.t rfl) .n) rfl (by decide) ?_
         obtain ⟨x231, hx231, ho⟩ := bnd ho
         refine s_app 8 S29 Y3 hx231 (.n rfl) rfl rfl rfl rfl rfl (.t rfl) rfl (.t rfl) rfl ?_
         intro v232
         refine faw F31_0 (by decide) rfl <| s_storebo 1 0 (U29).sz rfl rfl (by exact Nat.le_of_ble_eq_true rfl) (.n rfl) rfl rfl (.t rfl) (.t rfl) (by rfl) <| nq <| rr <| s_loadb 2 (fun _ h => by cases h <;> rfl) (U24).agg rfl (.n rfl) rfl rfl (.t rfl) rfl <| mv rfl ?_
         obtain ⟨x233, hx233, ho⟩ := bnd ho
         refine s_idxo 6 S24 hx233 (.n rfl) rfl rfl (.t rfl) rfl (.t rfl) <| s_loado 6 (fun _ h => by cases h <;> rfl) U4 FOk.self (idx_inv hx233).2.2.2 (.n rfl) rfl rfl (.t rfl) rfl <| nq <| ct rfl (fun hq234 => ?_) (fun hq234 => ?_)
         ·have ho := cnd1 ho hq234
          refine r_region <| faw F31_1 (by decide) rfl <| s_loadb 1 (fun _ h => by cases h <;> rfl) (U29).agg rfl (.n rfl) rfl rfl (.t rfl) rfl <| mv rfl <| s_bs (R := (rInt .i64)) S29 Y3 (.n rfl) rfl rfl (.c (.t rfl) .n) rfl (by decide) ?_
          obtain ⟨x235, hx235, ho⟩ := bnd ho
          refine s_app 8 S29 Y3 hx235 (.n rfl) rfl rfl rfl rfl rfl (.t rfl) rfl (.t rfl) rfl ?_
          intro v236
          refine faw F31_1 (by decide) rfl <| s_storebo 2 0 (U29).sz rfl rfl (by exact Nat.le_of_ble_eq_true rfl) (.n rfl) rfl rfl (.t rfl) (.t rfl) (by rfl) <| nq <| r_region <| arc rfl (by decide) .add <| mv rfl ?_
          cases ho
          exact s_nil (fun fr h s => And.intro rfl (Exists.intro [v236, v232] (s.pick [2, 3, 4, 5, 6, 7, 8, 0, 1] ⟨rfl, rfl, rfl, rfl, rfl, rfl, rfl, trivial⟩ rfl (by decide))))
         ·have ho := cnd0 ho hq234
          refine kq rfl <| r_region <| arc rfl (by decide) .add <| mv rfl ?_
          cases ho
          exact s_nil (fun fr h s => And.intro rfl (Exists.intro [(gh g221 0), v232] (s.pick [1, 2, 3, 4, 5, 6, 7, 8, 0] ⟨rfl, rfl, rfl, rfl, rfl, rfl, rfl, trivial⟩ rfl (by decide))))
        ·have ho := cnd0 ho hq230
         refine kq rfl <| rr <| s_loadb 1 (fun _ h => by cases h <;> rfl) (U24).agg rfl (.n rfl) rfl rfl (.t rfl) rfl <| mv rfl ?_
         obtain ⟨x241, hx241, ho⟩ := bnd ho
         refine s_idxo 5 S24 hx241 (.n rfl) rfl rfl (.t rfl) rfl (.t rfl) <| s_loado 5 (fun _ h => by cases h <;> rfl) U4 FOk.self (idx_inv hx241).2.2.2 (.n rfl) rfl rfl (.t rfl) rfl <| nq <| ct rfl (fun hq242 => ?_) (fun hq242 => ?_)
         ·have ho := cnd1 ho hq242
          refine r_region <| faw F31_1 (by decide) rfl <| s_loadb 0 (fun _ h => by cases h <;> rfl) (U29).agg rfl (.n rfl) rfl rfl (.t rfl) rfl <| mv rfl <| s_bs (R := (rInt .i64)) S29 Y3 (.n rfl) rfl rfl (.c (.t rfl) .n) rfl (by decide) ?_
          obtain ⟨x243, hx243, ho⟩ := bnd ho
          refine s_app 7 S29 Y3 hx243 (.n rfl) rfl rfl rfl rfl rfl (.t rfl) rfl (.t rfl) rfl ?_
          intro v244
          refine faw F31_1 (by decide) rfl <| s_storebo 1 0 (U29).sz rfl rfl (by exact Nat.le_of_ble_eq_true rfl) (.n rfl) rfl rfl (.t rfl) (.t rfl) (by rfl) <| nq <| r_region <| arc rfl (by decide) .add <| mv rfl ?_
          cases ho
          exact s_nil (fun fr h s => And.intro rfl (Exists.intro [v244, (gh g221 1)] (s.pick [1, 2, 3, 4, 5, 6, 7, 0, 8] ⟨rfl, rfl, rfl, rfl, rfl, rfl, rfl, trivial⟩ rfl (by decide))))
         ·have ho := cnd0 ho hq242
          refine kq rfl <| r_region <| arc rfl (by decide) .add <| mv rfl ?_
          cases ho
          exact s_nil (fun fr h s => And.intro rfl (Exists.intro [(gh g221 0), (gh g221 1)] (s.pick [0, 1, 2, 3, 4, 5, 6, 7, 8] ⟨rfl, rfl, rfl, rfl, rfl, rfl, rfl, trivial⟩ rfl (by decide))))
       ·have ho := cnd0 ho hq228
        cases ho
        exact r_exit (fun fr h s => And.intro rfl (Exists.intro [(gh g221 1), (gh g221 0)] (s.pick [0, 3, 4, 8, 7] ⟨rfl, rfl, rfl, trivial⟩ rfl (by decide))))
      ·intro g253
       show ∀ fr h, St _ [(5, .raw (.ptr b2 0)), (14, .raw ((gh g132 0))), (22, .raw (.ptr b188 0))] [(.ptr b188 0, .box [.raw ((gh g253 0)), .raw ((gh g253 1))]), (.ptr b2 0, .box [.val (rSlice (rInt .i64)) ([]), .val (rSlice (rInt .i64)) ([])]), ((gh g132 0), .row (rSlice (rInt .i64)) (t130)), ((gh g253 0), .row (rInt .i64) (t251.1)), ((gh g253 1), .row (rInt .i64) (t251.2))] fr h → _
       show SRun ..
       refine r_seq ?_
       refine r_draw [1] (by kernel_rfl) ?_
       refine mv rfl <| s_st (st_freezec 3 0 (q := 0) [] rfl rfl rfl rfl (by rfl) trivial) ?_
       refine s_st (st_freezec 3 0 (q := 1) [] rfl rfl rfl rfl (by rfl) trivial) ?_
       refine s_loadbs (R := rDutyProof) (a := (t251.1, t251.2, ())) 0 (fun _ h => by cases h <;> rfl) U31 (c1 rfl (c1 rfl cells_unit)) (.n rfl) rfl rfl (.t rfl) rfl ?_
       refine sg rfl <| s_storebs 1 U31 rfl (c1 rfl (c1 rfl cells_unit)) (by rfl) (.n rfl) rfl rfl (.t rfl) (.t rfl) (by rfl) <| sgc (by decide) <| nq ?_
       cases ho
       exact r_ret (ret_of (.inr rfl) (.r 2 rfl rfl (.b 1 U31 (c1 rfl (c1 rfl cells_unit)) rfl rfl (.v rfl .n))) (by decide))
theorem g_ref08_Same_ok {a_0 : (List Int)} {b_1 : (List Int)} {out : (Bool)} (ho : g_ref08_Same a_0 b_1 = some out) : Fun ktab 20 [.val (rSlice (rInt .i64)) a_0, .val (rSlice (rInt .i64)) b_1] [.val rBool (out)] := by
 refine fun_of (F := Try.f20) (by rfl) (by rfl) (by rfl) (fun C hC => ?_)
 delta g_ref08_Same at ho
 refine rr <| sgb <| nq <| r_seq <| rr <| mv rfl <| ln S29 rfl rfl rfl (.t rfl) <| mv rfl <| ln S29 rfl rfl rfl (.t rfl) <| cm rfl rfl .neq <| nq <| ct rfl (fun hq1 => ?_) (fun hq1 => ?_)
 ·have ho := cnd1 ho hq1
  refine rr <| sgb <| nq ?_
  cases ho
  exact r_ret (ret_of (.inr rfl) (.v rfl .n) (by decide))
 ·have ho := cnd0 ho hq1
  refine kq rfl <| r_seq <| rr <| sgc (by decide) <| nq <| r_block ?_
  obtain ⟨t12, ht12, ho⟩ := bnd ho
  refine r_loop (σ := (Int)) (τ := Unit ⊕ (Bool)) (G := List AVal) (fun s g => ([(0, .val (rSlice (rInt .i64)) (a_0)), (1, .val (rSlice (rInt .i64)) (b_1)), (5, .val (rInt .i64) (s))], [])) (altX (fun b => (.exit 0, fun g => ([], []))) (fun b => (.ret, fun g => ([(4, .val rBool (b))], [])))) _ [] ht12 (fun fr h s => s.pick [] ⟨rfl, rfl, rfl, trivial⟩ rfl (by decide)) ?_ ?_ ?_
  ·intro t
   rcases t with t | t
   ·exact nx
   ·exact nr
  ·clear ho
   intro s6 g7 r13 ho
   refine r_seq <| rr <| mv rfl <| mv rfl <| ln S29 rfl rfl rfl (.t rfl) <| cm rfl rfl .lss <| nq <| ct rfl (fun hq8 => ?_) (fun hq8 => ?_)
   ·have ho := cnd1 ho hq8
    refine kq rfl <| r_seq <| r_block <| r_seq ?_
    refine r_draw [] (by kernel_rfl) ?_
    refine mv rfl <| mv rfl ?_
    obtain ⟨x9, hx9, ho⟩ := bnd ho
    refine ix S29 hx9 rfl rfl <| ld U3 rfl <| mv rfl <| mv rfl ?_
    obtain ⟨x10, hx10, ho⟩ := bnd ho
    refine ix S29 hx10 rfl rfl <| ld U3 rfl <| cm rfl rfl .neq <| nq <| ct rfl (fun hq11 => ?_) (fun hq11 => ?_)
    ·have ho := cnd1 ho hq11
     refine rr <| sgb <| nq ?_
     cases ho
     exact r_ret fun _ _ s => fz [] s ⟨rfl, trivial⟩ rfl
    ·have ho := cnd0 ho hq11
     refine kq rfl <| r_region <| mv rfl <| arc rfl (by decide) .add <| sg rfl ?_
     cases ho
     exact s_nil fun _ _ s => fz [] s ⟨rfl, rfl, rfl, trivial⟩ rfl
   ·have ho := cnd0 ho hq8
    cases ho
    exact r_exit fun _ _ s => fz [] s trivial rfl
  ·clear ht12
   rcases t12 with b14 | b15
   ·have ho := alt_l ho
    intro g16
    show ∀ fr h, St _ [] [] fr h → _
    show SRun ..
    refine rr <| sgb <| nq ?_
    cases ho
    exact r_ret (ret_of (.inr rfl) (.v rfl .n) (by decide))
   ·have ho := alt_r ho
    intro g17
    show ∀ fr h, St _ [(4, .val rBool (b15))] [] fr h → _
    cases ho
    exact id (ret_of (.inr rfl) (.v rfl .n) (by decide))
theorem g_ref08_Lists_ok {a_0 : (List (List Int))} {b_1 : (List (List Int))} {out : (Bool)} (ho : g_ref08_Lists a_0 b_1 = some out) : Fun ktab 18 [.val (rSlice (rSlice (rInt .i64))) a_0, .val (rSlice (rSlice (rInt .i64))) b_1] [.val rBool (out)] := by
 refine fun_of (F := Try.f18) (by rfl) (by rfl) (by rfl) (fun C hC => ?_)
 delta g_ref08_Lists at ho
 refine rr <| sgb <| nq <| r_seq <| rr <| mv rfl <| ln S23 rfl rfl rfl (.t rfl) <| mv rfl <| ln S23 rfl rfl rfl (.t rfl) <| cm rfl rfl .neq <| nq <| ct rfl (fun hq1 => ?_) (fun hq1 => ?_)
 ·have ho := cnd1 ho hq1
  refine rr <| sgb <| nq ?_
  cases ho
  exact r_ret (ret_of (.inr rfl) (.v rfl .n) (by decide))
 ·have ho := cnd0 ho hq1
  refine kq rfl <| r_seq <| rr <| sgc (by decide) <| nq <| r_block ?_
  obtain ⟨t14, ht14, ho⟩ := bnd ho
  refine r_loop (σ := (Int)) (τ := Unit ⊕ (Bool)) (G := List AVal) (fun s g => ([(0, .val (rSlice (rSlice (rInt .i64))) (a_0)), (1, .val (rSlice (rSlice (rInt .i64))) (b_1)), (5, .val (rInt .i64) (s))], [])) (altX (fun b => (.exit 0, fun g => ([], []))) (fun b => (.ret, fun g => ([(4, .val rBool (b))], [])))) _ [] ht14 (fun fr h s => s.pick [] ⟨rfl, rfl, rfl, trivial⟩ rfl (by decide)) ?_ ?_ ?_
  ·intro t
   rcases t with t | t
   ·exact nx
   ·exact nr
  ·clear ho
   intro s7 g8 r15 ho
   refine r_seq <| rr <| mv rfl <| mv rfl <| ln S23 rfl rfl rfl (.t rfl) <| cm rfl rfl .lss <| nq <| ct rfl (fun hq9 => ?_) (fun hq9 => ?_)
   ·have ho := cnd1 ho hq9
    refine kq rfl <| r_seq <| r_block <| r_seq ?_
    refine r_draw [] (by kernel_rfl) ?_
    refine mv rfl <| mv rfl ?_
    obtain ⟨x10, hx10, ho⟩ := bnd ho
    refine ix S23 hx10 rfl rfl <| ld U29 rfl <| mv rfl <| mv rfl ?_
    obtain ⟨x11, hx11, ho⟩ := bnd ho
    refine ix S23 hx11 rfl rfl <| ld U29 rfl ?_
    obtain ⟨y12, hy12, ho⟩ := bnd ho
    refine s_calll (g_ref08_Same_ok hy12) (.v flat_bool .n) rfl (.n rfl) rfl rfl rfl .f (.c (.o (.t rfl)) (.c (.o (.t rfl)) .n)) ?_
    show SOps ..
    refine s_not (.n rfl) rfl rfl (.t rfl) <| nq <| ct rfl (fun hq13 => ?_) (fun hq13 => ?_)
    ·have ho := cnd1 ho hq13
     refine rr <| sgb <| nq ?_
     cases ho
     exact r_ret fun _ _ s => fz [] s ⟨rfl, trivial⟩ rfl
    ·have ho := cnd0 ho hq13
     refine kq rfl <| r_region <| mv rfl <| arc rfl (by decide) .add <| sg rfl ?_
     cases ho
     exact s_nil fun _ _ s => fz [] s ⟨rfl, rfl, rfl, trivial⟩ rfl
   ·have ho := cnd0 ho hq9
    cases ho
    exact r_exit fun _ _ s => fz [] s trivial rfl
  ·clear ht14
   rcases t14 with b16 | b17
   ·have ho := alt_l ho
    intro g18
    show ∀ fr h, St _ [] [] fr h → _
    show SRun ..
    refine rr <| sgb <| nq ?_
    cases ho
    exact r_ret (ret_of (.inr rfl) (.v rfl .n) (by decide))
   ·have ho := alt_r ho
    intro g19
    show ∀ fr h, St _ [(4, .val rBool (b17))] [] fr h → _
    cases ho
    exact id (ret_of (.inr rfl) (.v rfl .n) (by decide))
theorem g_duty_work_planned_ok {p_0 : duty_work} {p_1 : (List (List Int))} {out : (Bool)} (ho : g_duty_work_planned p_0 p_1 = some out) : Fun ktab 64 [.val (rPtr rduty_work) p_0, .val (rSlice (rSlice (rInt .i64))) p_1] [.val rBool (out)] := by
 refine fun_of (F := Try.f64) (by rfl) (by rfl) (by rfl) (fun C hC => ?_)
 delta g_duty_work_planned at ho
 refine rr <| sgb <| nq <| rr <| mv rfl <| nk rfl <| fa F81_0 fk_duty_work_0 (by decide) rfl <| ld U22 rfl <| ln S22 rfl rfl rfl (.t rfl) ?_
 obtain ⟨x1, hx1, ho⟩ := bnd ho
 refine s_mk S24 Y4 Z4 hx1 (.n rfl) rfl rfl (.t rfl) (.t rfl) ?_
 intro v2
 refine sg rfl <| nq <| rr <| sgc (by decide) <| nq <| r_seq <| rr <| mv rfl <| ln S23 rfl rfl rfl (.t rfl) <| mvc (by decide) <| nq <| r_block ?_
 obtain ⟨t471, ht471, ho⟩ := bnd ho
 refine r_loop (σ := (Int × Int × (List Bool))) (τ := (Int × (List Bool)) ⊕ (Bool)) (G := List AVal) (fun s g => ([(0, .val (rPtr rduty_work) (p_0)), (1, .val (rSlice (rSlice (rInt .i64))) (p_1)), (5, .raw v2), (6, .val (rInt .i64) (s.1)), (17, .val (rSlice (rSlice (rInt .i64))) (p_1)), (18, .val (rInt .i64) ((lenI p_1))), (19, .val (rInt .i64) (s.2.1))], [(v2, .row rBool (s.2.2))])) (altX (fun b => (.exit 0, fun g => ([(0, .val (rPtr rduty_work) (p_0)), (6, .val (rInt .i64) (b.1))], []))) (fun b => (.ret, fun g => ([(4, .val rBool (b))], [])))) _ [] ht471 (fun fr h s => s.pick [0] ⟨rfl, rfl, rfl, rfl, rfl, rfl, rfl, trivial⟩ rfl (by decide)) ?_ ?_ ?_
 ·intro t
  rcases t with t | t
  ·exact nx
  ·exact nr
 ·clear ho
  intro s306 g307 r472 ho
  refine rr <| cm rfl rfl .lss <| nq <| r_seq <| ct rfl (fun hq308 => ?_) (fun hq308 => ?_)
  ·have ho := cnd1 ho hq308
   refine kq rfl <| r_seq <| r_block <| rr <| mv rfl ?_
   obtain ⟨x309, hx309, ho⟩ := bnd ho
   refine ix S23 hx309 rfl rfl <| ld U29 rfl <| sg rfl <| sg rfl <| nq <| r_seq <| r_seq ?_
   refine r_draw [] (by kernel_rfl) ?_
   refine mv rfl <| ln S29 rfl rfl rfl (.t rfl) <| cmc rfl (by decide) .eql <| mv rfl ?_
   rcases Bool.eq_false_or_eq_true (((lenI x309) == 0)) with hb315 | hb315
   ·have ho := cnd1 ho hb315
    refine skg (gf1 hb315) rfl rfl <| skg (gf1 hb315) rfl rfl <| skg (gf1 hb315) rfl rfl <| sku rfl rfl <| sku rfl rfl <| sku rfl rfl <| sku rfl rfl <| sku rfl rfl <| sku rfl rfl <| sku rfl rfl <| sku rfl rfl <| sku rfl rfl <| sku rfl rfl <| sku rfl rfl <| skg (gf1 hb315) rfl rfl <| pk1 hb315 rfl .b <| nq <| ct rfl (fun _ => ?_) (fun hq => by cases hq)
    refine rr <| sgb <| nq ?_
    cases ho
    exact r_ret fun _ _ s => fz [] s ⟨rfl, trivial⟩ rfl
   ·have ho := cnd0 ho hb315
    refine mvg (gf0 hb315) rfl rfl rfl <| s_cmp (.g rfl rfl (gf0 hb315)) rfl rfl (.t rfl) (.i (by decide) (by decide)) .gtr <| mvg (gf0 hb315) rfl rfl rfl ?_
    rcases Bool.eq_false_or_eq_true ((decide (s306.2.1 > 0))) with hb317 | hb317
    ·have ho := cnd1 ho hb317
     refine mvg (gt1 hb317) rfl rfl rfl ?_
     obtain ⟨x318, hx318, ho⟩ := bnd ho
     refine s_idx S29 hx318 (.g rfl rfl (gt1 hb317)) rfl rfl (.t rfl) (.i (by decide) (by decide)) <| ldg U3 (gt1 hb317) rfl rfl rfl <| mvg (gt1 hb317) rfl rfl rfl <| mvg (gt1 hb317) rfl rfl rfl <| s_ar (.g rfl rfl (gt1 hb317)) rfl rfl (.t rfl) (.i (by decide) (by decide)) .sub ?_
     obtain ⟨x319, hx319, ho⟩ := bnd ho
     refine s_idx S23 hx319 (.g rfl rfl (gt1 hb317)) rfl rfl (.t rfl) (.t rfl) <| ldg U29 (gt1 hb317) rfl rfl rfl ?_
     obtain ⟨x320, hx320, ho⟩ := bnd ho
     refine s_idx S29 hx320 (.g rfl rfl (gt1 hb317)) rfl rfl (.t rfl) (.i (by decide) (by decide)) <| ldg U3 (gt1 hb317) rfl rfl rfl <| s_cmp (.g rfl rfl (gt1 hb317)) rfl rfl (.t rfl) (.t rfl) .leq <| s_pk1 hb317 (.g rfl rfl (gf0 hb315)) rfl rfl (.t rfl) (.t rfl) <| pk0 hb315 rfl (.t rfl) <| nq <| ct rfl (fun hq321 => ?_) (fun hq321 => ?_)
     ·have ho := cnd1 ho hq321
      refine rr <| sgb <| nq ?_
      cases ho
      exact r_ret fun _ _ s => fz [] s ⟨rfl, trivial⟩ rfl
     ·have ho := cnd0 ho hq321
      refine kq rfl <| rr <| mv rfl <| ln S29 rfl rfl rfl (.t rfl) <| mvc (by decide) <| nq <| r_block ?_
      obtain ⟨t390, ht390, ho⟩ := bnd ho
      refine r_loop (σ := (Int × Int × (List Bool))) (τ := (Int × (List Bool)) ⊕ (Bool × (List Bool))) (G := List AVal) (fun s g => ([(0, .val (rPtr rduty_work) (p_0)), (1, .val (rSlice (rSlice (rInt .i64))) (p_1)), (5, .raw v2), (6, .val (rInt .i64) (s.1)), (8, .val (rSlice (rInt .i64)) (x309)), (17, .val (rSlice (rSlice (rInt .i64))) (p_1)), (18, .val (rInt .i64) ((lenI p_1))), (19, .val (rInt .i64) (s306.2.1)), (28, .val (rInt .i64) (s306.2.1)), (29, .val rBool ((decide (s306.2.1 > 0)))), (30, .val rBool ((decide (s306.2.1 > 0)))), (31, .val (rSlice (rInt .i64)) (x309)), (32, .val (rPtr (rInt .i64)) (x318)), (33, .val (rInt .i64) (x318)), (34, .val (rSlice (rSlice (rInt .i64))) (p_1)), (35, .val (rInt .i64) (s306.2.1)), (36, .val (rInt .i64) ((w64 (s306.2.1 - 1)))), (37, .val (rPtr (rSlice (rInt .i64))) (x319)), (38, .val (rSlice (rInt .i64)) (x319)), (39, .val (rPtr (rInt .i64)) (x320)), (40, .val (rInt .i64) (x320)), (41, .val rBool ((decide (x318 ≤ x320)))), (42, .val rBool ((decide (x318 ≤ x320)))), (44, .val (rSlice (rInt .i64)) (x309)), (45, .val (rInt .i64) ((lenI x309))), (46, .val (rInt .i64) (s.2.1))], [(v2, .row rBool (s.2.2))])) (altX (fun b => (.exit 2, fun g => ([(0, .val (rPtr rduty_work) (p_0)), (1, .val (rSlice (rSlice (rInt .i64))) (p_1)), (5, .raw v2), (6, .val (rInt .i64) (b.1)), (17, .val (rSlice (rSlice (rInt .i64))) (p_1)), (18, .val (rInt .i64) ((lenI p_1))), (19, .val (rInt .i64) (s306.2.1)), (28, .val (rInt .i64) (s306.2.1)), (29, .val rBool ((decide (s306.2.1 > 0)))), (30, .val rBool ((decide (s306.2.1 > 0)))), (31, .val (rSlice (rInt .i64)) (x309)), (32, .val (rPtr (rInt .i64)) (x318)), (33, .val (rInt .i64) (x318)), (34, .val (rSlice (rSlice (rInt .i64))) (p_1)), (35, .val (rInt .i64) (s306.2.1)), (36, .val (rInt .i64) ((w64 (s306.2.1 - 1)))), (37, .val (rPtr (rSlice (rInt .i64))) (x319)), (38, .val (rSlice (rInt .i64)) (x319)), (39, .val (rPtr (rInt .i64)) (x320)), (40, .val (rInt .i64) (x320)), (41, .val rBool ((decide (x318 ≤ x320)))), (42, .val rBool ((decide (x318 ≤ x320))))], [(v2, .row rBool (b.2))]))) (fun b => (.ret, fun g => ([(4, .val rBool (b.1))], [])))) _ [] ht390 (fun fr h s => s.pick [0] ⟨rfl, rfl, rfl, rfl, rfl, rfl, rfl, rfl, rfl, rfl, rfl, rfl, rfl, rfl, rfl, rfl, rfl, rfl, rfl, rfl, rfl, rfl, rfl, rfl, rfl, rfl, trivial⟩ rfl (by decide)) ?_ ?_ ?_
      ·intro t
       rcases t with t | t
       ·exact nx
       ·exact nr
      ·clear ho
       intro s366 g367 r391 ho
       refine rr <| cm rfl rfl .lss <| nq <| r_seq <| ct rfl (fun hq368 => ?_) (fun hq368 => ?_)
       ·have ho := cnd1 ho hq368
        refine kq rfl <| r_seq <| r_block <| rr <| mv rfl ?_
        obtain ⟨x369, hx369, ho⟩ := bnd ho
        refine ix S29 hx369 rfl rfl <| ld U3 rfl <| sg rfl <| sg rfl <| nq <| r_seq <| rr <| mv rfl <| mv rfl <| nk rfl <| fa F81_0 fk_duty_work_0 (by decide) rfl <| ld U22 rfl <| ln S22 rfl rfl rfl (.t rfl) <| arc rfl (by decide) .sub ?_
        obtain ⟨y377, hy377, ho⟩ := bnd ho
        refine s_calll (g_duty_within_ok hy377) (.v flat_bool .n) rfl (.n rfl) rfl rfl rfl .f (.c (.o (.t rfl)) (.c (.o (.i (by decide) (by decide))) (.c (.o (.t rfl)) .n))) ?_
        show SOps ..
        refine s_not (.n rfl) rfl rfl (.t rfl) <| mv rfl ?_
        rcases Bool.eq_false_or_eq_true ((!y377)) with hb378 | hb378
        ·have ho := cnd1 ho hb378
         refine skg (gf1 hb378) rfl rfl <| skg (gf1 hb378) rfl rfl <| skg (gf1 hb378) rfl rfl <| skg (gf1 hb378) rfl rfl <| pk1 hb378 rfl .b <| mv rfl <| skg rfl rfl rfl <| skg rfl rfl rfl <| skg rfl rfl rfl <| sku rfl rfl <| sku rfl rfl <| sku rfl rfl <| sku rfl rfl <| sku rfl rfl <| sku rfl rfl <| sku rfl rfl <| sku rfl rfl <| sku rfl rfl <| skg rfl rfl rfl <| pt rfl .b <| nq <| ct rfl (fun _ => ?_) (fun hq => by cases hq)
         refine rr <| sgb <| nq ?_
         cases ho
         exact r_ret fun _ _ s => fz [] s ⟨rfl, trivial⟩ rfl
        ·have ho := cnd0 ho hb378
         refine mvg (gf0 hb378) rfl rfl rfl <| mvg (gf0 hb378) rfl rfl rfl ?_
         obtain ⟨x380, hx380, ho⟩ := bnd ho
         refine s_idxo 0 S24 hx380 (.g rfl rfl (gf0 hb378)) rfl rfl (.t rfl) rfl (.t rfl) <| s_loado 0 (fun _ h => by cases h <;> rfl) U4 FOk.self (idx_inv hx380).2.2.2 (.g rfl rfl (gf0 hb378)) rfl rfl (.t rfl) rfl <| pk0 hb378 rfl (.t rfl) <| mv rfl ?_
         rcases Bool.eq_false_or_eq_true (x380) with hb381 | hb381
         ·have ho := cnd1 ho hb381
          refine skg (gf1 hb381) rfl rfl <| skg (gf1 hb381) rfl rfl <| skg (gf1 hb381) rfl rfl <| sku rfl rfl <| sku rfl rfl <| sku rfl rfl <| sku rfl rfl <| sku rfl rfl <| sku rfl rfl <| sku rfl rfl <| sku rfl rfl <| sku rfl rfl <| skg (gf1 hb381) rfl rfl <| pk1 hb381 rfl .b <| nq <| ct rfl (fun _ => ?_) (fun hq => by cases hq)
          refine rr <| sgb <| nq ?_
          cases ho
          exact r_ret fun _ _ s => fz [] s ⟨rfl, trivial⟩ rfl
         ·have ho := cnd0 ho hb381
          refine mvg (gf0 hb381) rfl rfl rfl <| s_cmp (.g rfl rfl (gf0 hb381)) rfl rfl (.t rfl) (.i (by decide) (by decide)) .gtr <| mvg (gf0 hb381) rfl rfl rfl ?_
          rcases Bool.eq_false_or_eq_true ((decide (s366.2.1 > 0))) with hb383 | hb383
          ·have ho := cnd1 ho hb383
           refine mvg (gt1 hb383) rfl rfl rfl <| mvg (gt1 hb383) rfl rfl rfl <| mvg (gt1 hb383) rfl rfl rfl <| s_ar (.g rfl rfl (gt1 hb383)) rfl rfl (.t rfl) (.i (by decide) (by decide)) .sub ?_
           obtain ⟨x384, hx384, ho⟩ := bnd ho
           refine s_idx S29 hx384 (.g rfl rfl (gt1 hb383)) rfl rfl (.t rfl) (.t rfl) <| ldg U3 (gt1 hb383) rfl rfl rfl <| mvg (gt1 hb383) rfl rfl rfl ?_
           obtain ⟨y385, hy385, ho⟩ := bnd ho
           refine s_calll (g_duty_work_follows_ok hy385) (.v flat_bool .n) rfl (.g rfl rfl (gt1 hb383)) rfl rfl rfl .f (.c (.o (.t rfl)) (.c (.o (.t rfl)) (.c (.o (.t rfl)) .n))) ?_
           show SOps ..
           refine s_not (.g rfl rfl (gt1 hb383)) rfl rfl (.t rfl) <| s_pk1 hb383 (.g rfl rfl (gf0 hb381)) rfl rfl (.t rfl) (.t rfl) <| pk0 hb381 rfl (.t rfl) <| nq <| ct rfl (fun hq386 => ?_) (fun hq386 => ?_)
           ·have ho := cnd1 ho hq386
            refine rr <| sgb <| nq ?_
            cases ho
            exact r_ret fun _ _ s => fz [] s ⟨rfl, trivial⟩ rfl
           ·have ho := cnd0 ho hq386
            refine kq rfl <| rr <| mv rfl <| mv rfl ?_
            obtain ⟨x387, hx387, ho⟩ := bnd ho
            refine s_idxo 0 S24 hx387 (.n rfl) rfl rfl (.t rfl) rfl (.t rfl) <| s_storeo 0 U4 FOk.self (idx_inv hx387).2.2.2 (.n rfl) rfl rfl (.t rfl) .b rfl rfl <| nq <| r_region <| mv rfl <| arc rfl (by decide) .add <| sg rfl <| nq <| r_region <| arc rfl (by decide) .add <| mv rfl ?_
            cases ho
            exact s_nil (fun fr h s => And.intro rfl (Exists.intro [] (s.pick [0] ⟨rfl, rfl, rfl, rfl, rfl, rfl, rfl, rfl, rfl, rfl, rfl, rfl, rfl, rfl, rfl, rfl, rfl, rfl, rfl, rfl, rfl, rfl, rfl, rfl, rfl, rfl, trivial⟩ rfl (by decide))))
          ·have ho := cnd0 ho hb383
           refine skg (gt0 hb383) rfl rfl <| skg (gt0 hb383) rfl rfl <| skg (gt0 hb383) rfl rfl <| skg (gt0 hb383) rfl rfl <| skg (gt0 hb383) rfl rfl <| skg (gt0 hb383) rfl rfl <| skg (gt0 hb383) rfl rfl <| skg (gt0 hb383) rfl rfl <| skg (gt0 hb383) rfl rfl <| s_pk0 hb383 (.g rfl rfl (gf0 hb381)) rfl rfl (.t rfl) .b <| pk0 hb381 rfl (.t rfl) <| nq <| ct rfl (fun hq => by cases hq) (fun _ => ?_)
           refine kq rfl <| rr <| mv rfl <| mv rfl ?_
           obtain ⟨x389, hx389, ho⟩ := bnd ho
           refine s_idxo 0 S24 hx389 (.n rfl) rfl rfl (.t rfl) rfl (.t rfl) <| s_storeo 0 U4 FOk.self (idx_inv hx389).2.2.2 (.n rfl) rfl rfl (.t rfl) .b rfl rfl <| nq <| r_region <| mv rfl <| arc rfl (by decide) .add <| sg rfl <| nq <| r_region <| arc rfl (by decide) .add <| mv rfl ?_
           cases ho
           exact s_nil (fun fr h s => And.intro rfl (Exists.intro [] (s.pick [0] ⟨rfl, rfl, rfl, rfl, rfl, rfl, rfl, rfl, rfl, rfl, rfl, rfl, rfl, rfl, rfl, rfl, rfl, rfl, rfl, rfl, rfl, rfl, rfl, rfl, rfl, rfl, trivial⟩ rfl (by decide))))
       ·have ho := cnd0 ho hq368
        cases ho
        exact r_exit (fun fr h s => And.intro rfl (Exists.intro [] (s.pick [0] ⟨rfl, rfl, rfl, rfl, rfl, rfl, rfl, rfl, rfl, rfl, rfl, rfl, rfl, rfl, rfl, rfl, rfl, rfl, rfl, rfl, rfl, rfl, trivial⟩ rfl (by decide))))
      ·clear ht390
       rcases t390 with b392 | b393
       ·have ho := alt_l ho
        intro g394
        show ∀ fr h, St _ [(0, .val (rPtr rduty_work) (p_0)), (1, .val (rSlice (rSlice (rInt .i64))) (p_1)), (5, .raw v2), (6, .val (rInt .i64) (b392.1)), (17, .val (rSlice (rSlice (rInt .i64))) (p_1)), (18, .val (rInt .i64) ((lenI p_1))), (19, .val (rInt .i64) (s306.2.1)), (28, .val (rInt .i64) (s306.2.1)), (29, .val rBool ((decide (s306.2.1 > 0)))), (30, .val rBool ((decide (s306.2.1 > 0)))), (31, .val (rSlice (rInt .i64)) (x309)), (32, .val (rPtr (rInt .i64)) (x318)), (33, .val (rInt .i64) (x318)), (34, .val (rSlice (rSlice (rInt .i64))) (p_1)), (35, .val (rInt .i64) (s306.2.1)), (36, .val (rInt .i64) ((w64 (s306.2.1 - 1)))), (37, .val (rPtr (rSlice (rInt .i64))) (x319)), (38, .val (rSlice (rInt .i64)) (x319)), (39, .val (rPtr (rInt .i64)) (x320)), (40, .val (rInt .i64) (x320)), (41, .val rBool ((decide (x318 ≤ x320)))), (42, .val rBool ((decide (x318 ≤ x320))))] [(v2, .row rBool (b392.2))] fr h → _
        show SRun ..
        refine r_region <| arc rfl (by decide) .add <| mv rfl ?_
        cases ho
        exact s_nil (fun fr h s => And.intro rfl (Exists.intro [] (s.pick [0] ⟨rfl, rfl, rfl, rfl, rfl, rfl, rfl, trivial⟩ rfl (by decide))))
       ·have ho := alt_r ho
        intro g395
        show ∀ fr h, St _ [(4, .val rBool (b393.1))] [] fr h → _
        cases ho
        exact id fun _ _ s => fz [] s ⟨rfl, trivial⟩ rfl
    ·have ho := cnd0 ho hb317
     refine skg (gt0 hb317) rfl rfl <| skg (gt0 hb317) rfl rfl <| skg (gt0 hb317) rfl rfl <| skg (gt0 hb317) rfl rfl <| skg (gt0 hb317) rfl rfl <| skg (gt0 hb317) rfl rfl <| skg (gt0 hb317) rfl rfl <| skg (gt0 hb317) rfl rfl <| skg (gt0 hb317) rfl rfl <| skg (gt0 hb317) rfl rfl <| skg (gt0 hb317) rfl rfl <| s_pk0 hb317 (.g rfl rfl (gf0 hb315)) rfl rfl (.t rfl) .b <| pk0 hb315 rfl (.t rfl) <| nq <| ct rfl (fun hq => by cases hq) (fun _ => ?_)
     refine kq rfl <| rr <| mv rfl <| ln S29 rfl rfl rfl (.t rfl) <| mvc (by decide) <| nq <| r_block ?_
     obtain ⟨t465, ht465, ho⟩ := bnd ho
     refine r_loop (σ := (Int × Int × (List Bool))) (τ := (Int × (List Bool)) ⊕ (Bool × (List Bool))) (G := List AVal) (fun s g => ([(0, .val (rPtr rduty_work) (p_0)), (1, .val (rSlice (rSlice (rInt .i64))) (p_1)), (5, .raw v2), (6, .val (rInt .i64) (s.1)), (8, .val (rSlice (rInt .i64)) (x309)), (17, .val (rSlice (rSlice (rInt .i64))) (p_1)), (18, .val (rInt .i64) ((lenI p_1))), (19, .val (rInt .i64) (s306.2.1)), (28, .val (rInt .i64) (s306.2.1)), (29, .val rBool ((decide (s306.2.1 > 0)))), (30, .val rBool ((decide (s306.2.1 > 0)))), (42, .val rBool (false)), (44, .val (rSlice (rInt .i64)) (x309)), (45, .val (rInt .i64) ((lenI x309))), (46, .val (rInt .i64) (s.2.1))], [(v2, .row rBool (s.2.2))])) (altX (fun b => (.exit 2, fun g => ([(0, .val (rPtr rduty_work) (p_0)), (1, .val (rSlice (rSlice (rInt .i64))) (p_1)), (5, .raw v2), (6, .val (rInt .i64) (b.1)), (17, .val (rSlice (rSlice (rInt .i64))) (p_1)), (18, .val (rInt .i64) ((lenI p_1))), (19, .val (rInt .i64) (s306.2.1)), (28, .val (rInt .i64) (s306.2.1)), (29, .val rBool ((decide (s306.2.1 > 0)))), (30, .val rBool ((decide (s306.2.1 > 0)))), (42, .val rBool (false))], [(v2, .row rBool (b.2))]))) (fun b => (.ret, fun g => ([(4, .val rBool (b.1))], [])))) _ [] ht465 (fun fr h s => s.pick [0] ⟨rfl, rfl, rfl, rfl, rfl, rfl, rfl, rfl, rfl, rfl, rfl, rfl, rfl, rfl, rfl, trivial⟩ rfl (by decide)) ?_ ?_ ?_
     ·intro t
      rcases t with t | t
      ·exact nx
      ·exact nr
     ·clear ho
      intro s441 g442 r466 ho
      refine rr <| cm rfl rfl .lss <| nq <| r_seq <| ct rfl (fun hq443 => ?_) (fun hq443 => ?_)
      ·have ho := cnd1 ho hq443
       refine kq rfl <| r_seq <| r_block <| rr <| mv rfl ?_
       obtain ⟨x444, hx444, ho⟩ := bnd ho
       refine ix S29 hx444 rfl rfl <| ld U3 rfl <| sg rfl <| sg rfl <| nq <| r_seq <| rr <| mv rfl <| mv rfl <| nk rfl <| fa F81_0 fk_duty_work_0 (by decide) rfl <| ld U22 rfl <| ln S22 rfl rfl rfl (.t rfl) <| arc rfl (by decide) .sub ?_
       obtain ⟨y452, hy452, ho⟩ := bnd ho
       refine s_calll (g_duty_within_ok hy452) (.v flat_bool .n) rfl (.n rfl) rfl rfl rfl .f (.c (.o (.t rfl)) (.c (.o (.i (by decide) (by decide))) (.c (.o (.t rfl)) .n))) ?_
       show SOps ..
       refine s_not (.n rfl) rfl rfl (.t rfl) <| mv rfl ?_
       rcases Bool.eq_false_or_eq_true ((!y452)) with hb453 | hb453
       ·have ho := cnd1 ho hb453
        refine skg (gf1 hb453) rfl rfl <| skg (gf1 hb453) rfl rfl <| skg (gf1 hb453) rfl rfl <| skg (gf1 hb453) rfl rfl <| pk1 hb453 rfl .b <| mv rfl <| skg rfl rfl rfl <| skg rfl rfl rfl <| skg rfl rfl rfl <| sku rfl rfl <| sku rfl rfl <| sku rfl rfl <| sku rfl rfl <| sku rfl rfl <| sku rfl rfl <| sku rfl rfl <| sku rfl rfl <| sku rfl rfl <| skg rfl rfl rfl <| pt rfl .b <| nq <| ct rfl (fun _ => ?_) (fun hq => by cases hq)
        refine rr <| sgb <| nq ?_
        cases ho
        exact r_ret fun _ _ s => fz [] s ⟨rfl, trivial⟩ rfl
       ·have ho := cnd0 ho hb453
        refine mvg (gf0 hb453) rfl rfl rfl <| mvg (gf0 hb453) rfl rfl rfl ?_
        obtain ⟨x455, hx455, ho⟩ := bnd ho
        refine s_idxo 0 S24 hx455 (.g rfl rfl (gf0 hb453)) rfl rfl (.t rfl) rfl (.t rfl) <| s_loado 0 (fun _ h => by cases h <;> rfl) U4 FOk.self (idx_inv hx455).2.2.2 (.g rfl rfl (gf0 hb453)) rfl rfl (.t rfl) rfl <| pk0 hb453 rfl (.t rfl) <| mv rfl ?_
        rcases Bool.eq_false_or_eq_true (x455) with hb456 | hb456
        ·have ho := cnd1 ho hb456
         refine skg (gf1 hb456) rfl rfl <| skg (gf1 hb456) rfl rfl <| skg (gf1 hb456) rfl rfl <| sku rfl rfl <| sku rfl rfl <| sku rfl rfl <| sku rfl rfl <| sku rfl rfl <| sku rfl rfl <| sku rfl rfl <| sku rfl rfl <| sku rfl rfl <| skg (gf1 hb456) rfl rfl <| pk1 hb456 rfl .b <| nq <| ct rfl (fun _ => ?_) (fun hq => by cases hq)
         refine rr <| sgb <| nq ?_
         cases ho
         exact r_ret fun _ _ s => fz [] s ⟨rfl, trivial⟩ rfl
        ·have ho := cnd0 ho hb456
         refine mvg (gf0 hb456) rfl rfl rfl <| s_cmp (.g rfl rfl (gf0 hb456)) rfl rfl (.t rfl) (.i (by decide) (by decide)) .gtr <| mvg (gf0 hb456) rfl rfl rfl ?_
         rcases Bool.eq_false_or_eq_true ((decide (s441.2.1 > 0))) with hb458 | hb458
         ·have ho := cnd1 ho hb458
          refine mvg (gt1 hb458) rfl rfl rfl <| mvg (gt1 hb458) rfl rfl rfl <| mvg (gt1 hb458) rfl rfl rfl <| s_ar (.g rfl rfl (gt1 hb458)) rfl rfl (.t rfl) (.i (by decide) (by decide)) .sub ?_
          obtain ⟨x459, hx459, ho⟩ := bnd ho
          refine s_idx S29 hx459 (.g rfl rfl (gt1 hb458)) rfl rfl (.t rfl) (.t rfl) <| ldg U3 (gt1 hb458) rfl rfl rfl <| mvg (gt1 hb458) rfl rfl rfl ?_
          obtain ⟨y460, hy460, ho⟩ := bnd ho
          refine s_calll (g_duty_work_follows_ok hy460) (.v flat_bool .n) rfl (.g rfl rfl (gt1 hb458)) rfl rfl rfl .f (.c (.o (.t rfl)) (.c (.o (.t rfl)) (.c (.o (.t rfl)) .n))) ?_
          show SOps ..
          refine s_not (.g rfl rfl (gt1 hb458)) rfl rfl (.t rfl) <| s_pk1 hb458 (.g rfl rfl (gf0 hb456)) rfl rfl (.t rfl) (.t rfl) <| pk0 hb456 rfl (.t rfl) <| nq <| ct rfl (fun hq461 => ?_) (fun hq461 => ?_)
          ·have ho := cnd1 ho hq461
           refine rr <| sgb <| nq ?_
           cases ho
           exact r_ret fun _ _ s => fz [] s ⟨rfl, trivial⟩ rfl
          ·have ho := cnd0 ho hq461
           refine kq rfl <| rr <| mv rfl <| mv rfl ?_
           obtain ⟨x462, hx462, ho⟩ := bnd ho
           refine s_idxo 0 S24 hx462 (.n rfl) rfl rfl (.t rfl) rfl (.t rfl) <| s_storeo 0 U4 FOk.self (idx_inv hx462).2.2.2 (.n rfl) rfl rfl (.t rfl) .b rfl rfl <| nq <| r_region <| mv rfl <| arc rfl (by decide) .add <| sg rfl <| nq <| r_region <| arc rfl (by decide) .add <| mv rfl ?_
           cases ho
           exact s_nil (fun fr h s => And.intro rfl (Exists.intro [] (s.pick [0] ⟨rfl, rfl, rfl, rfl, rfl, rfl, rfl, rfl, rfl, rfl, rfl, rfl, rfl, rfl, rfl, trivial⟩ rfl (by decide))))
         ·have ho := cnd0 ho hb458
          refine skg (gt0 hb458) rfl rfl <| skg (gt0 hb458) rfl rfl <| skg (gt0 hb458) rfl rfl <| skg (gt0 hb458) rfl rfl <| skg (gt0 hb458) rfl rfl <| skg (gt0 hb458) rfl rfl <| skg (gt0 hb458) rfl rfl <| skg (gt0 hb458) rfl rfl <| skg (gt0 hb458) rfl rfl <| s_pk0 hb458 (.g rfl rfl (gf0 hb456)) rfl rfl (.t rfl) .b <| pk0 hb456 rfl (.t rfl) <| nq <| ct rfl (fun hq => by cases hq) (fun _ => ?_)
          refine kq rfl <| rr <| mv rfl <| mv rfl ?_
          obtain ⟨x464, hx464, ho⟩ := bnd ho
          refine s_idxo 0 S24 hx464 (.n rfl) rfl rfl (.t rfl) rfl (.t rfl) <| s_storeo 0 U4 FOk.self (idx_inv hx464).2.2.2 (.n rfl) rfl rfl (.t rfl) .b rfl rfl <| nq <| r_region <| mv rfl <| arc rfl (by decide) .add <| sg rfl <| nq <| r_region <| arc rfl (by decide) .add <| mv rfl ?_
          cases ho
          exact s_nil (fun fr h s => And.intro rfl (Exists.intro [] (s.pick [0] ⟨rfl, rfl, rfl, rfl, rfl, rfl, rfl, rfl, rfl, rfl, rfl, rfl, rfl, rfl, rfl, trivial⟩ rfl (by decide))))
      ·have ho := cnd0 ho hq443
       cases ho
       exact r_exit (fun fr h s => And.intro rfl (Exists.intro [] (s.pick [0] ⟨rfl, rfl, rfl, rfl, rfl, rfl, rfl, rfl, rfl, rfl, rfl, trivial⟩ rfl (by decide))))
     ·clear ht465
      rcases t465 with b467 | b468
      ·have ho := alt_l ho
       intro g469
       show ∀ fr h, St _ [(0, .val (rPtr rduty_work) (p_0)), (1, .val (rSlice (rSlice (rInt .i64))) (p_1)), (5, .raw v2), (6, .val (rInt .i64) (b467.1)), (17, .val (rSlice (rSlice (rInt .i64))) (p_1)), (18, .val (rInt .i64) ((lenI p_1))), (19, .val (rInt .i64) (s306.2.1)), (28, .val (rInt .i64) (s306.2.1)), (29, .val rBool ((decide (s306.2.1 > 0)))), (30, .val rBool ((decide (s306.2.1 > 0)))), (42, .val rBool (false))] [(v2, .row rBool (b467.2))] fr h → _
       show SRun ..
       refine r_region <| arc rfl (by decide) .add <| mv rfl ?_
       cases ho
       exact s_nil (fun fr h s => And.intro rfl (Exists.intro [] (s.pick [0] ⟨rfl, rfl, rfl, rfl, rfl, rfl, rfl, trivial⟩ rfl (by decide))))
      ·have ho := alt_r ho
       intro g470
       show ∀ fr h, St _ [(4, .val rBool (b468.1))] [] fr h → _
       cases ho
       exact id fun _ _ s => fz [] s ⟨rfl, trivial⟩ rfl
  ·have ho := cnd0 ho hq308
   cases ho
   exact r_exit fun _ _ s => fz [] s ⟨rfl, rfl, trivial⟩ rfl
 ·clear ht471
  rcases t471 with b473 | b474
  ·have ho := alt_l ho
   intro g475
   show ∀ fr h, St _ [(0, .val (rPtr rduty_work) (p_0)), (6, .val (rInt .i64) (b473.1))] [] fr h → _
   show SRun ..
   refine rr <| mv rfl <| mv rfl <| nk rfl <| fa F81_0 fk_duty_work_0 (by decide) rfl <| ld U22 rfl <| ln S22 rfl rfl rfl (.t rfl) <| cm rfl rfl .eql <| sg rfl <| nq ?_
   cases ho
   exact r_ret (ret_of (.inr rfl) (.v rfl .n) (by decide))
  ·have ho := alt_r ho
   intro g476
   show ∀ fr h, St _ [(4, .val rBool (b474))] [] fr h → _
   cases ho
   exact id (ret_of (.inr rfl) (.v rfl .n) (by decide))
theorem g_duty_crewed_1_ok {x_0 : Int} {out : (Bool)} (ho : g_duty_crewed_1 x_0 = some out) : Fun ktab 65 [.val (rInt .i64) x_0] [.val rBool (out)] := by
 refine fun_of (F := Try.f65) (by rfl) (by rfl) (by rfl) (fun C hC => ?_)
 delta g_duty_crewed_1 at ho
 refine rr <| sgb <| nq <| rr <| mv rfl ?_
 obtain ⟨y1, hy1, ho⟩ := bnd ho
 refine s_calll (g_duty_within_ok hy1) (.v flat_bool .n) rfl (.n rfl) rfl rfl rfl .f (.c (.o (.t rfl)) (.c (.o (.i (by decide) (by decide))) (.c (.o (.i (by decide) (by decide))) .n))) ?_
 show SOps ..
 refine s_not (.n rfl) rfl rfl (.t rfl) <| sg rfl <| nq ?_
 cases ho
 exact r_ret (ret_of (.inr rfl) (.v rfl .n) (by decide))
theorem g_duty_crewed_ok {tasks_0 : (List Task)} {y_1 : Yard} {cars_2 : (List (List Int))} {r_3 : WorkRules} {out : ((Option duty_crew) × Bool)} (ho : g_duty_crewed tasks_0 y_1 cars_2 r_3 = some out) : Fun ktab 44 [.val (rSlice rTask) tasks_0, .val rYard y_1, .val (rSlice (rSlice (rInt .i64))) cars_2, .val rWorkRules r_3] [.val (rPtrN rduty_crew) (out.1), .val rBool (out.2)] := by
 refine fun_of (F := Try.f44) (by rfl) (by rfl) (by rfl) (fun C hC => ?_)
 delta g_duty_crewed at ho
 refine rr <| bx rfl <| bx rfl <| s_pure rfl (.n rfl) rfl (e := .val (rPtrN rduty_crew) none) (fun z fr h s => ⟨_, rfl, nilptr_ok⟩) ?_
 refine sgb <| nq <| r_seq <| rr <| mv rfl <| ld U26 rfl ?_
 obtain ⟨y1, hy1, ho⟩ := bnd ho
 refine s_calll (g_duty_Check_ok hy1) (.v flat_int .n) rfl (.n rfl) rfl rfl rfl .f (.c (.o (.t rfl)) (.c (.o (.t rfl)) .n)) ?_
 show SOps ..
 refine cmc rfl (by decide) .neq <| nq <| ct rfl (fun hq2 => ?_) (fun hq2 => ?_)
 ·have ho := cnd1 ho hq2
  refine rr <| s_pure rfl (.n rfl) rfl (e := .val (rPtrN rduty_crew) none) (fun z fr h s => ⟨_, rfl, nilptr_ok⟩) ?_
  refine sgb <| nq ?_
  cases ho
  exact r_ret (ret_of (.inr rfl) (.v rfl (.v rfl .n)) (by decide))
 ·have ho := cnd0 ho hq2
  refine kq rfl <| rr <| mv rfl <| ld U26 rfl <| s_build (R := rduty_work) B81 (.n rfl) rfl rfl rfl (.p (.t rfl) rfl (.p (.t rfl) rfl (.n rfl))) ?_
  refine bx rfl <| mv rfl <| ld U42 rfl <| s_build (R := rduty_crew) B119 (.n rfl) rfl rfl rfl (.p (.t rfl) rfl (.p (.t rfl) rfl (.p (.t rfl) rfl (.n rfl)))) ?_
  refine bx rfl <| sg rfl <| nq <| r_seq <| r_seq ?_
  obtain ⟨c6, hc6, ho⟩ := bnd ho
  refine r_cut (τ := (Bool)) (G := Unit) (fun t => (.normal, fun _ => ([(10, .val (rPtr rduty_crew) (((((tasks_0, y_1, ()) : duty_work), cars_2, r_3, ()) : duty_crew))), (45, .val rBool (t))], []))) (t := c6) ?_ ?_
  ·have ho := hc6
   clear hc6
   refine r_region <| mv rfl <| nk rfl <| fa F119_0 fk_duty_crew_0 (by decide) rfl <| ld U79 rfl <| mv rfl ?_
   obtain ⟨y7, hy7, ho⟩ := bnd ho
   refine s_calll (g_duty_work_planned_ok hy7) (.v flat_bool .n) rfl (.n rfl) rfl rfl rfl .f (.c (.o (.t rfl)) (.c (.o (.t rfl)) .n)) ?_
   show SOps ..
   refine s_not (.n rfl) rfl rfl (.t rfl) <| mv rfl ?_
   rcases Bool.eq_false_or_eq_true ((!y7)) with hb8 | hb8
   ·have ho := cnd1 ho hb8
    refine skg (gf1 hb8) rfl rfl <| skg (gf1 hb8) rfl rfl <| skg (gf1 hb8) rfl rfl <| skg (gf1 hb8) rfl rfl <| skg (gf1 hb8) rfl rfl <| skg (gf1 hb8) rfl rfl <| skg (gf1 hb8) rfl rfl <| skg (gf1 hb8) rfl rfl <| skg (gf1 hb8) rfl rfl <| skg (gf1 hb8) rfl rfl <| skg (gf1 hb8) rfl rfl <| skg (gf1 hb8) rfl rfl <| skg (gf1 hb8) rfl rfl <| skg (gf1 hb8) rfl rfl <| pk1 hb8 rfl .b ?_
    cases ho
    exact s_nil fun _ _ s => fz () s ⟨rfl, rfl, trivial⟩ rfl
   ·have ho := cnd0 ho hb8
    refine s_fa F42_0 fk_WorkRules_0 (by decide) (.g rfl rfl (gf0 hb8)) rfl rfl (.t rfl) <| ldg U3 (gf0 hb8) rfl rfl rfl <| s_fa F42_1 fk_WorkRules_1 (by decide) (.g rfl rfl (gf0 hb8)) rfl rfl (.t rfl) <| ldg U3 (gf0 hb8) rfl rfl rfl <| s_fa F42_2 fk_WorkRules_2 (by decide) (.g rfl rfl (gf0 hb8)) rfl rfl (.t rfl) <| ldg U3 (gf0 hb8) rfl rfl rfl <| s_fa F42_3 fk_WorkRules_3 (by decide) (.g rfl rfl (gf0 hb8)) rfl rfl (.t rfl) ?_
    refine ldg U3 (gf0 hb8) rfl rfl rfl <| s_fa F42_4 fk_WorkRules_4 (by decide) (.g rfl rfl (gf0 hb8)) rfl rfl (.t rfl) <| ldg U3 (gf0 hb8) rfl rfl rfl <| s_fa F42_5 fk_WorkRules_5 (by decide) (.g rfl rfl (gf0 hb8)) rfl rfl (.t rfl) <| ldg U3 (gf0 hb8) rfl rfl rfl <| s_bs (R := (rInt .i64)) S29 Y3 (.g rfl rfl (gf0 hb8)) rfl rfl (.c (.t rfl) (.c (.t rfl) (.c (.t rfl) (.c (.t rfl) (.c (.t rfl) (.c (.t rfl) .n)))))) rfl (by decide) ?_
    obtain ⟨y9, hy9, ho⟩ := bnd ho
    refine s_calll (g_slices_ContainsFunc_int_int_ok hy9) (.v flat_bool .n) rfl (.g rfl rfl (gf0 hb8)) rfl rfl rfl .f (.c (.o (.t rfl)) (.c (.o (.fv (opd_fn (fun x y hf => g_duty_crewed_1_ok hf) rfl))) .n)) ?_
    show SOps ..
    refine pk0 hb8 rfl (.t rfl) ?_
    cases ho
    exact s_nil fun _ _ s => fz () s ⟨rfl, rfl, trivial⟩ rfl
  ·intro _
   show SRun ..
   refine ct rfl (fun hq10 => ?_) (fun hq10 => ?_)
   ·have ho := cnd1 ho hq10
    refine rr <| s_pure rfl (.n rfl) rfl (e := .val (rPtrN rduty_crew) none) (fun z fr h s => ⟨_, rfl, nilptr_ok⟩) ?_
    refine sgb <| nq ?_
    cases ho
    exact r_ret (ret_of (.inr rfl) (.v rfl (.v rfl .n)) (by decide))
   ·have ho := cnd0 ho hq10
    refine kq rfl <| rr <| mv rfl <| sg rfl <| sgb <| nq ?_
    cases ho
    refine r_st (st_optn (n := 8) rfl) ?_
    exact r_ret (ret_of (.inr rfl) (.v rfl (.v rfl .n)) (by decide))
theorem g_duty_crew_pieces_ok {c_0 : duty_crew} {out : ((List DutyPiece))} (ho : g_duty_crew_pieces c_0 = some out) : Fun ktab 50 [.val (rPtr rduty_crew) c_0] [.row rDutyPiece (out)] := by
 refine fun_of (F := Try.f50) (by rfl) (by rfl) (by rfl) (fun C hC => ?_)
 delta g_duty_crew_pieces at ho
 refine rr <| s_st (st_nilrow rDutyPiece) <| s_assign (.n rfl) rfl rfl .nilr <| nq <| rr <| s_st (st_nilrow rDutyPiece) <| s_assign (.n rfl) rfl rfl .nilr <| nq <| r_seq <| rr <| mv rfl <| nk rfl <| fa F119_1 fk_duty_crew_1 (by decide) rfl <| ld U23 rfl <| ln S23 rfl rfl rfl (.t rfl) <| mvc (by decide) <| nq <| r_block ?_
 obtain ⟨t122, ht122, ho⟩ := bnd ho
 refine r_loop (σ := ((List DutyPiece) × Int)) (τ := ((List DutyPiece))) (G := List AVal) (fun s g => ([(3, .raw ((gh g 0))), (11, .val (rSlice (rSlice (rInt .i64))) (c_0.2.1)), (12, .val (rInt .i64) ((lenI c_0.2.1))), (13, .val (rInt .i64) (s.2))], [((gh g 0), .row rDutyPiece (s.1))])) (fun b => (.exit 0, fun g => ([(3, .raw ((gh g 0)))], [((gh g 0), .row rDutyPiece (b))]))) _ [.nilslice] ht122 (fun fr h s => s.pick [0] ⟨rfl, rfl, rfl, rfl, trivial⟩ rfl (by decide)) ?_ ?_ ?_
 ·intro t
  exact nx
 ·clear ho
  intro s60 g61 r123 ho
  refine rr <| cm rfl rfl .lss <| nq <| r_seq <| ct rfl (fun hq65 => ?_) (fun hq65 => ?_)
  ·have ho := cnd1 ho hq65
   refine kq rfl <| r_seq <| r_block <| rr <| mv rfl ?_
   obtain ⟨x66, hx66, ho⟩ := bnd ho
   refine ix S23 hx66 rfl rfl <| ld U29 rfl <| sg rfl <| sg rfl <| nq <| rr <| mv rfl <| ln S29 rfl rfl rfl (.t rfl) <| mvc (by decide) <| nq <| r_block ?_
   obtain ⟨t116, ht116, ho⟩ := bnd ho
   refine r_loop (σ := ((List DutyPiece) × Int)) (τ := ((List DutyPiece))) (G := List AVal) (fun s g => ([(3, .raw ((gh g 0))), (4, .val (rInt .i64) (s60.2)), (5, .val (rSlice (rInt .i64)) (x66)), (11, .val (rSlice (rSlice (rInt .i64))) (c_0.2.1)), (12, .val (rInt .i64) ((lenI c_0.2.1))), (13, .val (rInt .i64) (s60.2)), (19, .val (rInt .i64) ((lenI x66))), (20, .val (rInt .i64) (s.2))], [((gh g 0), .row rDutyPiece (s.1))])) (fun b => (.exit 2, fun g => ([(3, .raw ((gh g 0))), (11, .val (rSlice (rSlice (rInt .i64))) (c_0.2.1)), (12, .val (rInt .i64) ((lenI c_0.2.1))), (13, .val (rInt .i64) (s60.2))], [((gh g 0), .row rDutyPiece (b))]))) _ [(gh g61 0)] ht116 (fun fr h s => s.pick [0] ⟨rfl, rfl, rfl, rfl, rfl, rfl, rfl, rfl, trivial⟩ rfl (by decide)) ?_ ?_ ?_
   ·intro t
    exact nx
   ·clear ho
    intro s89 g90 r117 ho
    refine rr <| cm rfl rfl .lss <| nq <| r_seq <| ct rfl (fun hq94 => ?_) (fun hq94 => ?_)
    ·have ho := cnd1 ho hq94
     refine kq rfl <| r_seq <| r_block <| rr <| mv rfl <| sg rfl <| nq <| rr <| mv rfl <| sg rfl <| nq <| r_block ?_
     obtain ⟨t110, ht110, ho⟩ := bnd ho
     refine r_loop (σ := ((List DutyPiece) × Int)) (τ := ((List DutyPiece))) (G := List AVal) (fun s g => ([(3, .raw ((gh g 0))), (4, .val (rInt .i64) (s60.2)), (5, .val (rSlice (rInt .i64)) (x66)), (6, .val (rInt .i64) (s89.2)), (7, .val (rInt .i64) (s.2)), (11, .val (rSlice (rSlice (rInt .i64))) (c_0.2.1)), (12, .val (rInt .i64) ((lenI c_0.2.1))), (13, .val (rInt .i64) (s60.2)), (19, .val (rInt .i64) ((lenI x66))), (20, .val (rInt .i64) (s89.2))], [((gh g 0), .row rDutyPiece (s.1))])) (fun b => (.exit 4, fun g => ([(3, .raw ((gh g 0))), (4, .val (rInt .i64) (s60.2)), (5, .val (rSlice (rInt .i64)) (x66)), (11, .val (rSlice (rSlice (rInt .i64))) (c_0.2.1)), (12, .val (rInt .i64) ((lenI c_0.2.1))), (13, .val (rInt .i64) (s60.2)), (19, .val (rInt .i64) ((lenI x66))), (20, .val (rInt .i64) (s89.2))], [((gh g 0), .row rDutyPiece (b))]))) _ [(gh g90 0)] ht110 (fun fr h s => s.pick [0] ⟨rfl, rfl, rfl, rfl, rfl, rfl, rfl, rfl, rfl, rfl, trivial⟩ rfl (by decide)) ?_ ?_ ?_
     ·intro t
      exact nx
     ·clear ho
      intro s100 g101 r111 ho
      refine r_seq <| rr <| mv rfl <| mv rfl <| ln S29 rfl rfl rfl (.t rfl) <| cm rfl rfl .lss <| nq <| ct rfl (fun hq105 => ?_) (fun hq105 => ?_)
      ·have ho := cnd1 ho hq105
       refine kq rfl <| r_seq <| r_block <| r_region <| mv rfl <| mv rfl <| mv rfl <| mv rfl <| s_build (R := rDutyPiece) B78 (.n rfl) rfl rfl rfl (.p (.t rfl) rfl (.p (.t rfl) rfl (.p (.t rfl) rfl (.n rfl)))) ?_
       refine s_bs (R := rDutyPiece) S60 Y78 (.n rfl) rfl rfl (.c (.t rfl) .n) rfl (by decide) ?_
       obtain ⟨x106, hx106, ho⟩ := bnd ho
       refine s_app 0 S60 Y78 hx106 (.n rfl) rfl rfl rfl rfl rfl (.t rfl) rfl (.t rfl) rfl ?_
       intro v107
       refine sg rfl <| nq <| r_region <| mv rfl <| arc rfl (by decide) .add <| sg rfl ?_
       cases ho
       exact s_nil (fun fr h s => And.intro rfl (Exists.intro [v107] (s.pick [0] ⟨rfl, rfl, rfl, rfl, rfl, rfl, rfl, rfl, rfl, rfl, trivial⟩ rfl (by decide))))
      ·have ho := cnd0 ho hq105
       cases ho
       exact r_exit (fun fr h s => And.intro rfl (Exists.intro [(gh g101 0)] (s.pick [0] ⟨rfl, rfl, rfl, rfl, rfl, rfl, rfl, rfl, trivial⟩ rfl (by decide))))
     ·intro g112
      show ∀ fr h, St _ [(3, .raw ((gh g112 0))), (4, .val (rInt .i64) (s60.2)), (5, .val (rSlice (rInt .i64)) (x66)), (11, .val (rSlice (rSlice (rInt .i64))) (c_0.2.1)), (12, .val (rInt .i64) ((lenI c_0.2.1))), (13, .val (rInt .i64) (s60.2)), (19, .val (rInt .i64) ((lenI x66))), (20, .val (rInt .i64) (s89.2))] [((gh g112 0), .row rDutyPiece (t110))] fr h → _
      show SRun ..
      refine r_region <| arc rfl (by decide) .add <| mv rfl ?_
      cases ho
      exact s_nil (fun fr h s => And.intro rfl (Exists.intro [(gh g112 0)] (s.pick [0] ⟨rfl, rfl, rfl, rfl, rfl, rfl, rfl, rfl, trivial⟩ rfl (by decide))))
    ·have ho := cnd0 ho hq94
     cases ho
     exact r_exit (fun fr h s => And.intro rfl (Exists.intro [(gh g90 0)] (s.pick [0] ⟨rfl, rfl, rfl, rfl, trivial⟩ rfl (by decide))))
   ·intro g118
    show ∀ fr h, St _ [(3, .raw ((gh g118 0))), (11, .val (rSlice (rSlice (rInt .i64))) (c_0.2.1)), (12, .val (rInt .i64) ((lenI c_0.2.1))), (13, .val (rInt .i64) (s60.2))] [((gh g118 0), .row rDutyPiece (t116))] fr h → _
    show SRun ..
    refine r_region <| arc rfl (by decide) .add <| mv rfl ?_
    cases ho
    exact s_nil (fun fr h s => And.intro rfl (Exists.intro [(gh g118 0)] (s.pick [0] ⟨rfl, rfl, rfl, rfl, trivial⟩ rfl (by decide))))
  ·have ho := cnd0 ho hq65
   cases ho
   exact r_exit (fun fr h s => And.intro rfl (Exists.intro [(gh g61 0)] (s.pick [0] ⟨rfl, trivial⟩ rfl (by decide))))
 ·intro g124
  show ∀ fr h, St _ [(3, .raw ((gh g124 0)))] [((gh g124 0), .row rDutyPiece (t122))] fr h → _
  show SRun ..
  refine rr <| mv rfl <| sg rfl <| nq ?_
  cases ho
  exact r_ret (ret_of (.inr rfl) (.r 0 rfl rfl .n) (by decide))
theorem g_duty_crew_options_1_ok {p_0 : DutyPiece} {p_1 : duty_crew} {out : (Int)} (ho : g_duty_crew_options_1 p_0 p_1 = some out) : Fun ktab 66 [.val rDutyPiece p_0, .val (rPtr (rPtr rduty_crew)) p_1] [.val (rInt .u64) (out)] := by
 refine fun_of (F := Try.f66) (by rfl) (by rfl) (by rfl) (fun C hC => ?_)
 delta g_duty_crew_options_1 at ho
 refine rr <| bx rfl <| sgc (by decide) <| nq <| rr <| sgc (by decide) <| nq <| r_seq <| r_seq ?_
 refine r_draw [] (by kernel_rfl) ?_
 refine ld U89 rfl <| nk rfl <| fa F119_1 fk_duty_crew_1 (by decide) rfl <| ld U23 rfl <| fa F78_0 fk_DutyPiece_0 (by decide) rfl <| ld U3 rfl ?_
 obtain ⟨x1, hx1, ho⟩ := bnd ho
 refine ix S23 hx1 rfl rfl <| ld U29 rfl <| fa F78_1 fk_DutyPiece_1 (by decide) rfl <| ld U3 rfl <| fa F78_2 fk_DutyPiece_2 (by decide) rfl <| ld U3 rfl <| arc rfl (by decide) .add ?_
 obtain ⟨x2, hx2, ho⟩ := bnd ho
 refine s_slO S29 hx2 (.n rfl) rfl rfl (.t rfl) (.s (.t rfl)) (.s (.t rfl)) <| ln S29 rfl rfl rfl (.t rfl) <| mvc (by decide) <| nq <| r_block ?_
 obtain ⟨t11, ht11, ho⟩ := bnd ho
 refine r_loop (σ := (Int × Int)) (τ := (Int)) (G := List AVal) (fun s g => ([(4, .val (rInt .u64) (s.1)), (20, .val (rSlice (rInt .i64)) (x2)), (21, .val (rInt .i64) ((lenI x2))), (22, .val (rInt .i64) (s.2))], [])) (fun b => (.exit 0, fun g => ([(4, .val (rInt .u64) (b))], []))) _ [] ht11 (fun fr h s => s.pick [] ⟨rfl, rfl, rfl, rfl, trivial⟩ rfl (by decide)) ?_ ?_ ?_
 ·intro t
  exact nx
 ·clear ho
  intro s6 g7 r12 ho
  refine rr <| cm rfl rfl .lss <| nq <| r_seq <| ct rfl (fun hq8 => ?_) (fun hq8 => ?_)
  ·have ho := cnd1 ho hq8
   refine kq rfl <| r_seq <| r_block <| rr ?_
   obtain ⟨x9, hx9, ho⟩ := bnd ho
   refine ix S29 hx9 rfl rfl <| ld U3 rfl <| sg rfl <| nq <| r_region <| mv rfl <| mv rfl ?_
   obtain ⟨x10, hx10, ho⟩ := bnd ho
   refine s_shlO hx10 (.n rfl) rfl rfl (.i (by decide) (by decide)) (.t rfl) <| ar rfl rfl .or <| sg rfl <| nq <| r_region <| arc rfl (by decide) .add <| mv rfl ?_
   cases ho
   exact s_nil fun _ _ s => fz [] s ⟨rfl, rfl, rfl, rfl, trivial⟩ rfl
  ·have ho := cnd0 ho hq8
   cases ho
   exact r_exit fun _ _ s => fz [] s ⟨rfl, trivial⟩ rfl
 ·intro g13
  show ∀ fr h, St _ [(4, .val (rInt .u64) (t11))] [] fr h → _
  show SRun ..
  refine rr <| mv rfl <| sg rfl <| nq ?_
  cases ho
  exact r_ret (ret_of (.inr rfl) (.v rfl .n) (by decide))
theorem g_slices_IndexFunc_api_DutyPiece_api_DutyPiece_ok {s_0 : (List DutyPiece)} {f_1 : ((DutyPiece) → Option (Bool))} {out : (Int)} (ho : g_slices_IndexFunc_api_DutyPiece_api_DutyPiece s_0 f_1 = some out) : Fun ktab 94 [.val (rSlice rDutyPiece) s_0, .val (rFn ktab (DutyPiece) (Bool) (fun x => [.val rDutyPiece (x)]) (fun y => [.val rBool (y)])) f_1] [.val (rInt .i64) (out)] := by
 refine fun_of (F := Try.f94) (by rfl) (by rfl) (by rfl) (fun C hC => ?_)
 delta g_slices_IndexFunc_api_DutyPiece_api_DutyPiece at ho
 refine rr <| sgc (by decide) <| nq <| r_seq <| rr <| mv rfl <| ln S60 rfl rfl rfl (.t rfl) <| mvc (by decide) <| nq <| r_block ?_
 obtain ⟨t11, ht11, ho⟩ := bnd ho
 refine r_loop (σ := (Int)) (τ := Unit ⊕ (Int)) (G := List AVal) (fun s g => ([(0, .val (rSlice rDutyPiece) (s_0)), (1, .val (rFn ktab (DutyPiece) (Bool) (fun x => [.val rDutyPiece (x)]) (fun y => [.val rBool (y)])) (f_1)), (7, .val (rInt .i64) ((lenI s_0))), (8, .val (rInt .i64) (s))], [])) (altX (fun b => (.exit 0, fun g => ([], []))) (fun b => (.ret, fun g => ([(4, .val (rInt .i64) (b))], [])))) _ [] ht11 (fun fr h s => s.pick [] ⟨rfl, rfl, rfl, rfl, trivial⟩ rfl (by decide)) ?_ ?_ ?_
 ·intro t
  rcases t with t | t
  ·exact nx
  ·exact nr
 ·clear ho
  intro s5 g6 r12 ho
  refine rr <| cm rfl rfl .lss <| nq <| r_seq <| ct rfl (fun hq7 => ?_) (fun hq7 => ?_)
  ·have ho := cnd1 ho hq7
   refine kq rfl <| r_seq <| r_block <| rr <| mv rfl <| sg rfl <| nq <| rr <| mv rfl <| mv rfl <| mv rfl ?_
   obtain ⟨x8, hx8, ho⟩ := bnd ho
   refine ix S60 hx8 rfl rfl <| ld U78 rfl ?_
   obtain ⟨y9, hy9, ho⟩ := bnd ho
   refine s_callv (X := (DutyPiece)) (Y := (Bool)) (f := f_1) (x := x8) hy9 (.n rfl) rfl rfl rfl (.t rfl) (.c (.t rfl) .n) ?_
   show SOps ..
   refine nq <| ct rfl (fun hq10 => ?_) (fun hq10 => ?_)
   ·have ho := cnd1 ho hq10
    refine rr <| mv rfl <| sg rfl <| nq ?_
    cases ho
    exact r_ret fun _ _ s => fz [] s ⟨rfl, trivial⟩ rfl
   ·have ho := cnd0 ho hq10
    refine kq rfl <| r_region <| arc rfl (by decide) .add <| mv rfl ?_
    cases ho
    exact s_nil fun _ _ s => fz [] s ⟨rfl, rfl, rfl, rfl, trivial⟩ rfl
  ·have ho := cnd0 ho hq7
   cases ho
   exact r_exit fun _ _ s => fz [] s trivial rfl
 ·clear ht11
  rcases t11 with b13 | b14
  ·have ho := alt_l ho
   intro g15
   show ∀ fr h, St _ [] [] fr h → _
   show SRun ..
   refine rr <| sgc (by decide) <| nq ?_
   cases ho
   exact r_ret (ret_of (.inr rfl) (.v rfl .n) (by decide))
  ·have ho := alt_r ho
   intro g16
   show ∀ fr h, St _ [(4, .val (rInt .i64) (b14))] [] fr h → _
   cases ho
   exact id (ret_of (.inr rfl) (.v rfl .n) (by decide))
theorem g_slices_ContainsFunc_api_DutyPiece_api_DutyPiece_ok {s_0 : (List DutyPiece)} {f_1 : ((DutyPiece) → Option (Bool))} {out : (Bool)} (ho : g_slices_ContainsFunc_api_DutyPiece_api_DutyPiece s_0 f_1 = some out) : Fun ktab 88 [.val (rSlice rDutyPiece) s_0, .val (rFn ktab (DutyPiece) (Bool) (fun x => [.val rDutyPiece (x)]) (fun y => [.val rBool (y)])) f_1] [.val rBool (out)] := by
 refine fun_of (F := Try.f88) (by rfl) (by rfl) (by rfl) (fun C hC => ?_)
 delta g_slices_ContainsFunc_api_DutyPiece_api_DutyPiece at ho
 refine rr <| sgb <| nq <| rr <| mv rfl <| mv rfl ?_
 obtain ⟨y1, hy1, ho⟩ := bnd ho
 refine s_calll (g_slices_IndexFunc_api_DutyPiece_api_DutyPiece_ok hy1) (.v flat_int .n) rfl (.n rfl) rfl rfl rfl .f (.c (.o (.t rfl)) (.c (.o (.t rfl)) .n)) ?_
 show SOps ..
 refine cmc rfl (by decide) .geq <| sg rfl <| nq ?_
 cases ho
 exact r_ret (ret_of (.inr rfl) (.v rfl .n) (by decide))
theorem g_duty_crew_last_ok {c_0 : duty_crew} {p_1 : DutyPiece} {out : (Task)} (ho : g_duty_crew_last c_0 p_1 = some out) : Fun ktab 84 [.val (rPtr rduty_crew) c_0, .val rDutyPiece p_1] [.val rTask (out)] := by
 refine fun_of (F := Try.f84) (by rfl) (by rfl) (by rfl) (fun C hC => ?_)
 delta g_duty_crew_last at ho
 refine rr <| bx rfl <| s_alloc (zv := .agg [.int .i64 0, .int .i64 0, .int .i64 0, .int .i64 0]) (es := [.val (rInt .i64) (0), .val (rInt .i64) (0), .val (rInt .i64) (0), .val (rInt .i64) (0)]) (by kernel_rfl) (fun _ => (okint (okint (okint (okint okn))))) rfl (.n rfl) rfl rfl ?_
 intro b1
 refine nq <| r_seq ?_
 refine r_draw [] (by kernel_rfl) ?_
 refine mv rfl <| nk rfl <| fa F119_0 fk_duty_crew_0 (by decide) rfl <| ld U79 rfl <| nk rfl <| fa F81_0 fk_duty_work_0 (by decide) rfl <| ld U22 rfl <| mv rfl <| nk rfl <| fa F119_1 fk_duty_crew_1 (by decide) rfl <| ld U23 rfl <| fa F78_0 fk_DutyPiece_0 (by decide) rfl <| ld U3 rfl ?_
 obtain ⟨x3, hx3, ho⟩ := bnd ho
 refine ix S23 hx3 rfl rfl <| ld U29 rfl <| fa F78_2 fk_DutyPiece_2 (by decide) rfl <| ld U3 rfl ?_
 obtain ⟨x4, hx4, ho⟩ := bnd ho
 refine ix S29 hx4 rfl rfl <| ld U3 rfl ?_
 obtain ⟨x5, hx5, ho⟩ := bnd ho
 refine ix S22 hx5 rfl rfl <| ld U87 rfl <| s_storebs 0 U87 rfl (c1 rfl (c1 rfl (c1 rfl (c1 rfl cells_unit)))) (by rfl) (.n rfl) rfl rfl (.t rfl) (.t rfl) (by rfl) <| nq ?_
 cases ho
 exact r_ret (ret_of (.inr rfl) (.b 0 U87 (c1 rfl (c1 rfl (c1 rfl (c1 rfl cells_unit)))) rfl rfl .n) (by decide))
theorem g_duty_crew_first_ok {c_0 : duty_crew} {p_1 : DutyPiece} {out : (Task)} (ho : g_duty_crew_first c_0 p_1 = some out) : Fun ktab 85 [.val (rPtr rduty_crew) c_0, .val rDutyPiece p_1] [.val rTask (out)] := by
 refine fun_of (F := Try.f85) (by rfl) (by rfl) (by rfl) (fun C hC => ?_)
 delta g_duty_crew_first at ho
 refine rr <| bx rfl <| s_alloc (zv := .agg [.int .i64 0, .int .i64 0, .int .i64 0, .int .i64 0]) (es := [.val (rInt .i64) (0), .val (rInt .i64) (0), .val (rInt .i64) (0), .val (rInt .i64) (0)]) (by kernel_rfl) (fun _ => (okint (okint (okint (okint okn))))) rfl (.n rfl) rfl rfl ?_
 intro b1
 refine nq <| r_seq ?_
 refine r_draw [] (by kernel_rfl) ?_
 refine mv rfl <| nk rfl <| fa F119_0 fk_duty_crew_0 (by decide) rfl <| ld U79 rfl <| nk rfl <| fa F81_0 fk_duty_work_0 (by decide) rfl <| ld U22 rfl <| mv rfl <| nk rfl <| fa F119_1 fk_duty_crew_1 (by decide) rfl <| ld U23 rfl <| fa F78_0 fk_DutyPiece_0 (by decide) rfl <| ld U3 rfl ?_
 obtain ⟨x3, hx3, ho⟩ := bnd ho
 refine ix S23 hx3 rfl rfl <| ld U29 rfl <| fa F78_1 fk_DutyPiece_1 (by decide) rfl <| ld U3 rfl ?_
 obtain ⟨x4, hx4, ho⟩ := bnd ho
 refine ix S29 hx4 rfl rfl <| ld U3 rfl ?_
 obtain ⟨x5, hx5, ho⟩ := bnd ho
 refine ix S22 hx5 rfl rfl <| ld U87 rfl <| s_storebs 0 U87 rfl (c1 rfl (c1 rfl (c1 rfl (c1 rfl cells_unit)))) (by rfl) (.n rfl) rfl rfl (.t rfl) (.t rfl) (by rfl) <| nq ?_
 cases ho
 exact r_ret (ret_of (.inr rfl) (.b 0 U87 (c1 rfl (c1 rfl (c1 rfl (c1 rfl cells_unit)))) rfl rfl .n) (by decide))
theorem g_duty_crew_lasts_ok {c_0 : duty_crew} {p_1 : DutyPiece} {out : (Int)} (ho : g_duty_crew_lasts c_0 p_1 = some out) : Fun ktab 90 [.val (rPtr rduty_crew) c_0, .val rDutyPiece p_1] [.val (rInt .i64) (out)] := by
 refine fun_of (F := Try.f90) (by rfl) (by rfl) (by rfl) (fun C hC => ?_)
 delta g_duty_crew_lasts at ho
 refine rr <| bx rfl <| sgc (by decide) <| nq <| r_seq ?_
 refine r_draw [] (by kernel_rfl) ?_
 refine mv rfl <| ld U78 rfl ?_
 obtain ⟨y1, hy1, ho⟩ := bnd ho
 refine s_calll (g_duty_crew_last_ok hy1) (.v (flat_pair flat_int (flat_pair flat_int (flat_pair flat_int (flat_pair flat_int flat_unit)))) .n) rfl (.n rfl) rfl rfl rfl .f (.c (.o (.t rfl)) (.c (.o (.t rfl)) .n)) ?_
 show SOps ..
 refine s_field F87_3 U3 rfl fk_Task_3 (.n rfl) rfl rfl (.t rfl) <| mv rfl <| ld U78 rfl ?_
 obtain ⟨y2, hy2, ho⟩ := bnd ho
 refine s_calll (g_duty_crew_first_ok hy2) (.v (flat_pair flat_int (flat_pair flat_int (flat_pair flat_int (flat_pair flat_int flat_unit)))) .n) rfl (.n rfl) rfl rfl rfl .f (.c (.o (.t rfl)) (.c (.o (.t rfl)) .n)) ?_
 show SOps ..
 refine s_field F87_2 U3 rfl fk_Task_2 (.n rfl) rfl rfl (.t rfl) <| ar rfl rfl .sub <| sg rfl <| nq ?_
 cases ho
 exact r_ret (ret_of (.inr rfl) (.v rfl .n) (by decide))
theorem g_duty_crew_piece_1_ok {p_0 : DutyPiece} {p_1 : duty_crew} {out : (Bool)} (ho : g_duty_crew_piece_1 p_0 p_1 = some out) : Fun ktab 89 [.val rDutyPiece p_0, .val (rPtr (rPtr rduty_crew)) p_1] [.val rBool (out)] := by
 refine fun_of (F := Try.f89) (by rfl) (by rfl) (by rfl) (fun C hC => ?_)
 delta g_duty_crew_piece_1 at ho
 refine rr <| bx rfl <| sgb <| nq <| r_seq ?_
 refine r_draw [] (by kernel_rfl) ?_
 refine ld U89 rfl <| ld U78 rfl ?_
 obtain ⟨y1, hy1, ho⟩ := bnd ho
 refine s_calll (g_duty_crew_lasts_ok hy1) (.v flat_int .n) rfl (.n rfl) rfl rfl rfl .f (.c (.o (.t rfl)) (.c (.o (.t rfl)) .n)) ?_
 show SOps ..
 refine ld U89 rfl <| nk rfl <| fa F119_2 fk_duty_crew_2 (by decide) rfl <| fa F42_0 fk_WorkRules_0 (by decide) rfl <| ld U3 rfl <| cm rfl rfl .gtr <| sg rfl <| nq ?_
 cases ho
 exact r_ret (ret_of (.inr rfl) (.v rfl .n) (by decide))
theorem g_duty_crew_piece_ok {c_0 : duty_crew} {d_1 : Duty} {out : (Bool)} (ho : g_duty_crew_piece c_0 d_1 = some out) : Fun ktab 74 [.val (rPtr rduty_crew) c_0, .val rDuty d_1] [.val rBool (out)] := by
 refine fun_of (F := Try.f74) (by rfl) (by rfl) (by rfl) (fun C hC => ?_)
 delta g_duty_crew_piece at ho
 refine rr <| bx rfl <| bx rfl <| sgb <| nq <| rr <| fa F62_0 fk_Duty_0 (by decide) rfl <| ld U60 rfl <| s_mkfn (X := (DutyPiece)) (Y := (Bool)) (fun x => [.val rDutyPiece (x)]) (fun y => [.val rBool (y)]) (f := (fun x => g_duty_crew_piece_1 x c_0)) (fun x y hf => g_duty_crew_piece_1_ok hf) rfl (.n rfl) rfl rfl .n (.c (.t rfl) .n) ?_
 obtain ⟨y1, hy1, ho⟩ := bnd ho
 refine s_calll (g_slices_ContainsFunc_api_DutyPiece_api_DutyPiece_ok hy1) (.v flat_bool .n) rfl (.n rfl) rfl rfl rfl .f (.c (.o (.t rfl)) (.c (.o (.t rfl)) .n)) ?_
 show SOps ..
 refine sg rfl <| nq ?_
 cases ho
 exact r_ret (ret_of (.inr rfl) (.v rfl .n) (by decide))
theorem g_duty_crew_relief_1_ok {p_0 : DutyPiece} {p_1 : duty_crew} {out : (Bool)} (ho : g_duty_crew_relief_1 p_0 p_1 = some out) : Fun ktab 91 [.val rDutyPiece p_0, .val (rPtr (rPtr rduty_crew)) p_1] [.val rBool (out)] := by
 refine fun_of (F := Try.f91) (by rfl) (by rfl) (by rfl) (fun C hC => ?_)
 delta g_duty_crew_relief_1 at ho
 refine rr <| bx rfl <| sgb <| nq <| r_seq ?_
 obtain ⟨c13, hc13, ho⟩ := bnd ho
 refine r_cut (τ := (Bool)) (G := Unit) (fun t => (.normal, fun _ => ([(3, .val rBool (t))], []))) (t := c13) ?_ ?_
 ·have ho := hc13
  clear hc13
  refine r_draw [] (by kernel_rfl) ?_
  refine fa F78_1 fk_DutyPiece_1 (by decide) rfl <| ld U3 rfl <| cmc rfl (by decide) .gtr <| mv rfl ?_
  rcases Bool.eq_false_or_eq_true ((decide (p_0.2.1 > 0))) with hb14 | hb14
  ·have ho := cnd1 ho hb14
   refine ldg U89 (gt1 hb14) rfl rfl rfl <| s_nilck (.g rfl rfl (gt1 hb14)) rfl rfl (.t rfl) <| s_fa F119_0 fk_duty_crew_0 (by decide) (.g rfl rfl (gt1 hb14)) rfl rfl (.t rfl) <| ldg U79 (gt1 hb14) rfl rfl rfl <| s_nilck (.g rfl rfl (gt1 hb14)) rfl rfl (.t rfl) <| s_fa F81_1 fk_duty_work_1 (by decide) (.g rfl rfl (gt1 hb14)) rfl rfl (.t rfl) <| s_fa F26_2 fk_Yard_2 (by decide) (.g rfl rfl (gt1 hb14)) rfl rfl (.t rfl) ?_
   refine ldg U24 (gt1 hb14) rfl rfl rfl <| ldg U89 (gt1 hb14) rfl rfl rfl <| ldg U78 (gt1 hb14) rfl rfl rfl ?_
   obtain ⟨y15, hy15, ho⟩ := bnd ho
   refine s_calll (g_duty_crew_first_ok hy15) (.v (flat_pair flat_int (flat_pair flat_int (flat_pair flat_int (flat_pair flat_int flat_unit)))) .n) rfl (.g rfl rfl (gt1 hb14)) rfl rfl rfl .f (.c (.o (.t rfl)) (.c (.o (.t rfl)) .n)) ?_
   show SOps ..
   refine s_field F87_0 U3 rfl fk_Task_0 (.g rfl rfl (gt1 hb14)) rfl rfl (.t rfl) ?_
   obtain ⟨x16, hx16, ho⟩ := bnd ho
   refine s_idx S24 hx16 (.g rfl rfl (gt1 hb14)) rfl rfl (.t rfl) (.t rfl) <| ldg U4 (gt1 hb14) rfl rfl rfl <| s_not (.g rfl rfl (gt1 hb14)) rfl rfl (.t rfl) <| pk1 hb14 rfl (.t rfl) <| mv rfl ?_
   rcases Bool.eq_false_or_eq_true ((!x16)) with hb17 | hb17
   ·have ho := cnd1 ho hb17
    refine skg (gf1 hb17) rfl rfl <| skg (gf1 hb17) rfl rfl <| skg (gf1 hb17) rfl rfl <| skg (gf1 hb17) rfl rfl <| skg (gf1 hb17) rfl rfl <| skg (gf1 hb17) rfl rfl <| skg (gf1 hb17) rfl rfl <| skg (gf1 hb17) rfl rfl <| skg (gf1 hb17) rfl rfl <| skg (gf1 hb17) rfl rfl <| skg (gf1 hb17) rfl rfl <| skg (gf1 hb17) rfl rfl <| skg (gf1 hb17) rfl rfl <| skg (gf1 hb17) rfl rfl <| sku rfl rfl <| sku rfl rfl <| sku rfl rfl ?_
    refine sku rfl rfl <| sku rfl rfl <| sku rfl rfl <| sku rfl rfl <| sku rfl rfl <| sku rfl rfl <| sku rfl rfl <| sku rfl rfl <| sku rfl rfl <| sku rfl rfl <| sku rfl rfl <| sku rfl rfl <| skg (gf1 hb17) rfl rfl <| pk1 hb17 rfl .b <| sg rfl ?_
    cases ho
    exact s_nil fun _ _ s => fz () s ⟨rfl, trivial⟩ rfl
   ·have ho := cnd0 ho hb17
    refine s_fa F78_2 fk_DutyPiece_2 (by decide) (.g rfl rfl (gf0 hb17)) rfl rfl (.t rfl) <| ldg U3 (gf0 hb17) rfl rfl rfl <| ldg U89 (gf0 hb17) rfl rfl rfl <| s_nilck (.g rfl rfl (gf0 hb17)) rfl rfl (.t rfl) <| s_fa F119_1 fk_duty_crew_1 (by decide) (.g rfl rfl (gf0 hb17)) rfl rfl (.t rfl) <| ldg U23 (gf0 hb17) rfl rfl rfl <| s_fa F78_0 fk_DutyPiece_0 (by decide) (.g rfl rfl (gf0 hb17)) rfl rfl (.t rfl) <| ldg U3 (gf0 hb17) rfl rfl rfl ?_
    obtain ⟨x18, hx18, ho⟩ := bnd ho
    refine s_idx S23 hx18 (.g rfl rfl (gf0 hb17)) rfl rfl (.t rfl) (.t rfl) <| ldg U29 (gf0 hb17) rfl rfl rfl <| s_len S29 (.g rfl rfl (gf0 hb17)) rfl rfl rfl rfl rfl (.t rfl) <| s_ar (.g rfl rfl (gf0 hb17)) rfl rfl (.t rfl) (.i (by decide) (by decide)) .sub <| s_cmp (.g rfl rfl (gf0 hb17)) rfl rfl (.t rfl) (.t rfl) .lss <| mvg (gf0 hb17) rfl rfl rfl ?_
    rcases Bool.eq_false_or_eq_true ((decide (p_0.2.2.1 < (w64 ((lenI x18) - 1))))) with hb19 | hb19
    ·have ho := cnd1 ho hb19
     refine ldg U89 (gt1 hb19) rfl rfl rfl <| s_nilck (.g rfl rfl (gt1 hb19)) rfl rfl (.t rfl) <| s_fa F119_0 fk_duty_crew_0 (by decide) (.g rfl rfl (gt1 hb19)) rfl rfl (.t rfl) <| ldg U79 (gt1 hb19) rfl rfl rfl <| s_nilck (.g rfl rfl (gt1 hb19)) rfl rfl (.t rfl) <| s_fa F81_1 fk_duty_work_1 (by decide) (.g rfl rfl (gt1 hb19)) rfl rfl (.t rfl) <| s_fa F26_2 fk_Yard_2 (by decide) (.g rfl rfl (gt1 hb19)) rfl rfl (.t rfl) ?_
     refine ldg U24 (gt1 hb19) rfl rfl rfl <| ldg U89 (gt1 hb19) rfl rfl rfl <| ldg U78 (gt1 hb19) rfl rfl rfl ?_
     obtain ⟨y20, hy20, ho⟩ := bnd ho
     refine s_calll (g_duty_crew_last_ok hy20) (.v (flat_pair flat_int (flat_pair flat_int (flat_pair flat_int (flat_pair flat_int flat_unit)))) .n) rfl (.g rfl rfl (gt1 hb19)) rfl rfl rfl .f (.c (.o (.t rfl)) (.c (.o (.t rfl)) .n)) ?_
     show SOps ..
     refine s_field F87_1 U3 rfl fk_Task_1 (.g rfl rfl (gt1 hb19)) rfl rfl (.t rfl) ?_
     obtain ⟨x21, hx21, ho⟩ := bnd ho
     refine s_idx S24 hx21 (.g rfl rfl (gt1 hb19)) rfl rfl (.t rfl) (.t rfl) <| ldg U4 (gt1 hb19) rfl rfl rfl <| s_not (.g rfl rfl (gt1 hb19)) rfl rfl (.t rfl) <| s_pk1 hb19 (.g rfl rfl (gf0 hb17)) rfl rfl (.t rfl) (.t rfl) <| pk0 hb17 rfl (.t rfl) <| sg rfl ?_
     cases ho
     exact s_nil fun _ _ s => fz () s ⟨rfl, trivial⟩ rfl
    ·have ho := cnd0 ho hb19
     refine skg (gt0 hb19) rfl rfl <| skg (gt0 hb19) rfl rfl <| skg (gt0 hb19) rfl rfl <| skg (gt0 hb19) rfl rfl <| skg (gt0 hb19) rfl rfl <| skg (gt0 hb19) rfl rfl <| skg (gt0 hb19) rfl rfl <| skg (gt0 hb19) rfl rfl <| skg (gt0 hb19) rfl rfl <| skg (gt0 hb19) rfl rfl <| skg (gt0 hb19) rfl rfl <| skg (gt0 hb19) rfl rfl <| skg (gt0 hb19) rfl rfl <| skg (gt0 hb19) rfl rfl <| skg (gt0 hb19) rfl rfl <| s_pk0 hb19 (.g rfl rfl (gf0 hb17)) rfl rfl (.t rfl) .b ?_
     refine pk0 hb17 rfl (.t rfl) <| sg rfl ?_
     cases ho
     exact s_nil fun _ _ s => fz () s ⟨rfl, trivial⟩ rfl
  ·have ho := cnd0 ho hb14
   refine skg (gt0 hb14) rfl rfl <| skg (gt0 hb14) rfl rfl <| skg (gt0 hb14) rfl rfl <| skg (gt0 hb14) rfl rfl <| skg (gt0 hb14) rfl rfl <| skg (gt0 hb14) rfl rfl <| skg (gt0 hb14) rfl rfl <| skg (gt0 hb14) rfl rfl <| skg (gt0 hb14) rfl rfl <| skg (gt0 hb14) rfl rfl <| skg (gt0 hb14) rfl rfl <| skg (gt0 hb14) rfl rfl <| skg (gt0 hb14) rfl rfl <| skg (gt0 hb14) rfl rfl <| skg (gt0 hb14) rfl rfl <| pk0 hb14 rfl .b ?_
   refine mv rfl <| s_fa F78_2 fk_DutyPiece_2 (by decide) (.g rfl rfl rfl) rfl rfl (.t rfl) <| ldg U3 rfl rfl rfl rfl <| ldg U89 rfl rfl rfl rfl <| s_nilck (.g rfl rfl rfl) rfl rfl (.t rfl) <| s_fa F119_1 fk_duty_crew_1 (by decide) (.g rfl rfl rfl) rfl rfl (.t rfl) <| ldg U23 rfl rfl rfl rfl <| s_fa F78_0 fk_DutyPiece_0 (by decide) (.g rfl rfl rfl) rfl rfl (.t rfl) <| ldg U3 rfl rfl rfl rfl ?_
   obtain ⟨x22, hx22, ho⟩ := bnd ho
   refine s_idx S23 hx22 (.g rfl rfl rfl) rfl rfl (.t rfl) (.t rfl) <| ldg U29 rfl rfl rfl rfl <| s_len S29 (.g rfl rfl rfl) rfl rfl rfl rfl rfl (.t rfl) <| s_ar (.g rfl rfl rfl) rfl rfl (.t rfl) (.i (by decide) (by decide)) .sub <| s_cmp (.g rfl rfl rfl) rfl rfl (.t rfl) (.t rfl) .lss <| mvg rfl rfl rfl rfl ?_
   rcases Bool.eq_false_or_eq_true ((decide (p_0.2.2.1 < (w64 ((lenI x22) - 1))))) with hb23 | hb23
   ·have ho := cnd1 ho hb23
    refine ldg U89 (gt1 hb23) rfl rfl rfl <| s_nilck (.g rfl rfl (gt1 hb23)) rfl rfl (.t rfl) <| s_fa F119_0 fk_duty_crew_0 (by decide) (.g rfl rfl (gt1 hb23)) rfl rfl (.t rfl) <| ldg U79 (gt1 hb23) rfl rfl rfl <| s_nilck (.g rfl rfl (gt1 hb23)) rfl rfl (.t rfl) <| s_fa F81_1 fk_duty_work_1 (by decide) (.g rfl rfl (gt1 hb23)) rfl rfl (.t rfl) <| s_fa F26_2 fk_Yard_2 (by decide) (.g rfl rfl (gt1 hb23)) rfl rfl (.t rfl) ?_
    refine ldg U24 (gt1 hb23) rfl rfl rfl <| ldg U89 (gt1 hb23) rfl rfl rfl <| ldg U78 (gt1 hb23) rfl rfl rfl ?_
    obtain ⟨y24, hy24, ho⟩ := bnd ho
    refine s_calll (g_duty_crew_last_ok hy24) (.v (flat_pair flat_int (flat_pair flat_int (flat_pair flat_int (flat_pair flat_int flat_unit)))) .n) rfl (.g rfl rfl (gt1 hb23)) rfl rfl rfl .f (.c (.o (.t rfl)) (.c (.o (.t rfl)) .n)) ?_
    show SOps ..
    refine s_field F87_1 U3 rfl fk_Task_1 (.g rfl rfl (gt1 hb23)) rfl rfl (.t rfl) ?_
    obtain ⟨x25, hx25, ho⟩ := bnd ho
    refine s_idx S24 hx25 (.g rfl rfl (gt1 hb23)) rfl rfl (.t rfl) (.t rfl) <| ldg U4 (gt1 hb23) rfl rfl rfl <| s_not (.g rfl rfl (gt1 hb23)) rfl rfl (.t rfl) <| s_pk1 hb23 (.g rfl rfl rfl) rfl rfl (.t rfl) (.t rfl) <| s_pick0 (.n rfl) rfl rfl (.t rfl) (.t rfl) <| sg rfl ?_
    cases ho
    exact s_nil fun _ _ s => fz () s ⟨rfl, trivial⟩ rfl
   ·have ho := cnd0 ho hb23
    refine skg (gt0 hb23) rfl rfl <| skg (gt0 hb23) rfl rfl <| skg (gt0 hb23) rfl rfl <| skg (gt0 hb23) rfl rfl <| skg (gt0 hb23) rfl rfl <| skg (gt0 hb23) rfl rfl <| skg (gt0 hb23) rfl rfl <| skg (gt0 hb23) rfl rfl <| skg (gt0 hb23) rfl rfl <| skg (gt0 hb23) rfl rfl <| skg (gt0 hb23) rfl rfl <| skg (gt0 hb23) rfl rfl <| skg (gt0 hb23) rfl rfl <| skg (gt0 hb23) rfl rfl <| skg (gt0 hb23) rfl rfl <| s_pk0 hb23 (.g rfl rfl rfl) rfl rfl (.t rfl) .b ?_
    refine s_pick0 (.n rfl) rfl rfl (.t rfl) (.t rfl) <| sg rfl ?_
    cases ho
    exact s_nil fun _ _ s => fz () s ⟨rfl, trivial⟩ rfl
 ·intro _
  show SRun ..
  cases ho
  exact r_ret (ret_of (.inr rfl) (.v rfl .n) (by decide))
theorem g_duty_crew_relief_ok {c_0 : duty_crew} {d_1 : Duty} {out : (Bool)} (ho : g_duty_crew_relief c_0 d_1 = some out) : Fun ktab 75 [.val (rPtr rduty_crew) c_0, .val rDuty d_1] [.val rBool (out)] := by
 refine fun_of (F := Try.f75) (by rfl) (by rfl) (by rfl) (fun C hC => ?_)
 delta g_duty_crew_relief at ho
 refine rr <| bx rfl <| bx rfl <| sgb <| nq <| rr <| fa F62_0 fk_Duty_0 (by decide) rfl <| ld U60 rfl <| s_mkfn (X := (DutyPiece)) (Y := (Bool)) (fun x => [.val rDutyPiece (x)]) (fun y => [.val rBool (y)]) (f := (fun x => g_duty_crew_relief_1 x c_0)) (fun x y hf => g_duty_crew_relief_1_ok hf) rfl (.n rfl) rfl rfl .n (.c (.t rfl) .n) ?_
 obtain ⟨y1, hy1, ho⟩ := bnd ho
 refine s_calll (g_slices_ContainsFunc_api_DutyPiece_api_DutyPiece_ok hy1) (.v flat_bool .n) rfl (.n rfl) rfl rfl rfl .f (.c (.o (.t rfl)) (.c (.o (.t rfl)) .n)) ?_
 show SOps ..
 refine sg rfl <| nq ?_
 cases ho
 exact r_ret (ret_of (.inr rfl) (.v rfl .n) (by decide))
theorem g_duty_crew_between_ok {c_0 : duty_crew} {d_1 : Duty} {out : (Int × Int)} (ho : g_duty_crew_between c_0 d_1 = some out) : Fun ktab 92 [.val (rPtr rduty_crew) c_0, .val rDuty d_1] [.val (rInt .i64) (out.1), .val (rInt .i64) (out.2)] := by
 refine fun_of (F := Try.f92) (by rfl) (by rfl) (by rfl) (fun C hC => ?_)
 delta g_duty_crew_between at ho
 refine rr <| bx rfl <| sgc (by decide) <| sgc (by decide) <| nq <| r_seq ?_
 refine r_draw [] (by kernel_rfl) ?_
 refine mv rfl <| fa F62_0 fk_Duty_0 (by decide) rfl <| ld U60 rfl ?_
 obtain ⟨x1, hx1, ho⟩ := bnd ho
 refine s_idx S60 hx1 (.n rfl) rfl rfl (.t rfl) (.i (by decide) (by decide)) <| ld U78 rfl ?_
 obtain ⟨y2, hy2, ho⟩ := bnd ho
 refine s_calll (g_duty_crew_last_ok hy2) (.v (flat_pair flat_int (flat_pair flat_int (flat_pair flat_int (flat_pair flat_int flat_unit)))) .n) rfl (.n rfl) rfl rfl rfl .f (.c (.o (.t rfl)) (.c (.o (.t rfl)) .n)) ?_
 show SOps ..
 refine mv rfl <| fa F62_0 fk_Duty_0 (by decide) rfl <| ld U60 rfl ?_
 obtain ⟨x3, hx3, ho⟩ := bnd ho
 refine s_idx S60 hx3 (.n rfl) rfl rfl (.t rfl) (.i (by decide) (by decide)) <| ld U78 rfl ?_
 obtain ⟨y4, hy4, ho⟩ := bnd ho
 refine s_calll (g_duty_crew_first_ok hy4) (.v (flat_pair flat_int (flat_pair flat_int (flat_pair flat_int (flat_pair flat_int flat_unit)))) .n) rfl (.n rfl) rfl rfl rfl .f (.c (.o (.t rfl)) (.c (.o (.t rfl)) .n)) ?_
 show SOps ..
 refine s_alloc (zv := .agg [.int .i64 0, .int .i64 0, .int .i64 0, .int .i64 0]) (es := [.val (rInt .i64) (0), .val (rInt .i64) (0), .val (rInt .i64) (0), .val (rInt .i64) (0)]) (by kernel_rfl) (fun _ => (okint (okint (okint (okint okn))))) rfl (.n rfl) rfl rfl ?_
 intro b5
 refine s_alloc (zv := .agg [.int .i64 0, .int .i64 0, .int .i64 0, .int .i64 0]) (es := [.val (rInt .i64) (0), .val (rInt .i64) (0), .val (rInt .i64) (0), .val (rInt .i64) (0)]) (by kernel_rfl) (fun _ => (okint (okint (okint (okint okn))))) rfl (.n rfl) rfl rfl ?_
 intro b7
 refine s_storebs 1 U87 rfl (c1 rfl (c1 rfl (c1 rfl (c1 rfl cells_unit)))) (by rfl) (.n rfl) rfl rfl (.t rfl) (.t rfl) (by rfl) <| s_st (st_freezeb (R := rTask) (a := y2) 1 [6] (c1 rfl (c1 rfl (c1 rfl (c1 rfl cells_unit)))) rfl rfl ⟨rfl, trivial⟩) ?_
 refine s_storebs 0 U87 rfl (c1 rfl (c1 rfl (c1 rfl (c1 rfl cells_unit)))) (by rfl) (.n rfl) rfl rfl (.t rfl) (.t rfl) (by rfl) <| s_st (st_freezeb (R := rTask) (a := y4) 0 [7] (c1 rfl (c1 rfl (c1 rfl (c1 rfl cells_unit)))) rfl rfl ⟨rfl, trivial⟩) ?_
 refine nq <| r_seq ?_
 refine r_draw [] (by kernel_rfl) ?_
 refine fa F87_2 fk_Task_2 (by decide) rfl <| ld U3 rfl <| fa F87_3 fk_Task_3 (by decide) rfl <| ld U3 rfl <| ar rfl rfl .sub <| mv rfl <| nk rfl <| fa F119_0 fk_duty_crew_0 (by decide) rfl <| ld U79 rfl <| nk rfl <| fa F81_1 fk_duty_work_1 (by decide) rfl <| fa F26_0 fk_Yard_0 (by decide) rfl <| ld U23 rfl <| fa F87_1 fk_Task_1 (by decide) rfl <| ld U3 rfl ?_
 obtain ⟨x9, hx9, ho⟩ := bnd ho
 refine ix S23 hx9 rfl rfl <| ld U29 rfl <| fa F87_0 fk_Task_0 (by decide) rfl <| ld U3 rfl ?_
 obtain ⟨x10, hx10, ho⟩ := bnd ho
 refine ix S29 hx10 rfl rfl <| ld U3 rfl <| sg rfl <| sg rfl <| nq ?_
 cases ho
 exact r_ret (ret_of (.inr rfl) (.v rfl (.v rfl .n)) (by decide))
theorem g_duty_crew_order_ok {c_0 : duty_crew} {d_1 : Duty} {out : (Bool)} (ho : g_duty_crew_order c_0 d_1 = some out) : Fun ktab 76 [.val (rPtr rduty_crew) c_0, .val rDuty d_1] [.val rBool (out)] := by
 refine fun_of (F := Try.f76) (by rfl) (by rfl) (by rfl) (fun C hC => ?_)
 delta g_duty_crew_order at ho
 refine rr <| bx rfl <| sgb <| nq <| r_seq <| rr <| fa F62_0 fk_Duty_0 (by decide) rfl <| ld U60 rfl <| ln S60 rfl rfl rfl (.t rfl) <| cmc rfl (by decide) .eql <| nq <| ct rfl (fun hq1 => ?_) (fun hq1 => ?_)
 ·have ho := cnd1 ho hq1
  refine rr <| sgb <| nq ?_
  cases ho
  exact r_ret (ret_of (.inr rfl) (.v rfl .n) (by decide))
 ·have ho := cnd0 ho hq1
  refine kq rfl <| rr <| mv rfl <| ld U62 rfl ?_
  obtain ⟨y2, hy2, ho⟩ := bnd ho
  refine s_calll (g_duty_crew_between_ok hy2) (.v flat_int (.v flat_int .n)) rfl (.n rfl) rfl rfl rfl .f (.c (.o (.t rfl)) (.c (.o (.t rfl)) .n)) ?_
  show SOps ..
  refine mv rfl <| ext rfl rfl <| ext rfl rfl <| sg rfl <| sg rfl <| nq <| r_seq ?_
  obtain ⟨c4, hc4, ho⟩ := bnd ho
  refine r_cut (τ := (Bool)) (G := Unit) (fun t => (.normal, fun _ => ([(4, .val rBool (t))], []))) (t := c4) ?_ ?_
  ·have ho := hc4
   clear hc4
   refine r_region <| mv rfl <| cmc rfl (by decide) .lss <| mv rfl ?_
   rcases Bool.eq_false_or_eq_true ((decide (y2.1 < 0))) with hb5 | hb5
   ·have ho := cnd1 ho hb5
    refine skg (gf1 hb5) rfl rfl <| skg (gf1 hb5) rfl rfl <| pk1 hb5 rfl .b <| sg rfl ?_
    cases ho
    exact s_nil fun _ _ s => fz () s ⟨rfl, trivial⟩ rfl
   ·have ho := cnd0 ho hb5
    refine mvg (gf0 hb5) rfl rfl rfl <| s_cmp (.g rfl rfl (gf0 hb5)) rfl rfl (.t rfl) (.i (by decide) (by decide)) .lss <| pk0 hb5 rfl (.t rfl) <| sg rfl ?_
    cases ho
    exact s_nil fun _ _ s => fz () s ⟨rfl, trivial⟩ rfl
  ·intro _
   show SRun ..
   cases ho
   exact r_ret (ret_of (.inr rfl) (.v rfl .n) (by decide))
theorem g_duty_crew_pause_ok {c_0 : duty_crew} {d_1 : Duty} {out : (Bool)} (ho : g_duty_crew_pause c_0 d_1 = some out) : Fun ktab 77 [.val (rPtr rduty_crew) c_0, .val rDuty d_1] [.val rBool (out)] := by
 refine fun_of (F := Try.f77) (by rfl) (by rfl) (by rfl) (fun C hC => ?_)
 delta g_duty_crew_pause at ho
 refine rr <| bx rfl <| sgb <| nq <| r_seq <| r_seq ?_
 obtain ⟨c3, hc3, ho⟩ := bnd ho
 refine r_cut (τ := (Bool)) (G := Unit) (fun t => (.normal, fun _ => ([(0, .val (rPtr rduty_crew) (c_0)), (3, .val (rPtr rDuty) (d_1)), (15, .val rBool (t))], []))) (t := c3) ?_ ?_
 ·have ho := hc3
  clear hc3
  refine r_region <| fa F62_0 fk_Duty_0 (by decide) rfl <| ld U60 rfl <| ln S60 rfl rfl rfl (.t rfl) <| cmc rfl (by decide) .eql <| mv rfl ?_
  rcases Bool.eq_false_or_eq_true (((lenI d_1.1) == 1)) with hb4 | hb4
  ·have ho := cnd1 ho hb4
   refine skg (gf1 hb4) rfl rfl <| skg (gf1 hb4) rfl rfl <| skg (gf1 hb4) rfl rfl <| pk1 hb4 rfl .b ?_
   cases ho
   exact s_nil fun _ _ s => fz () s ⟨rfl, rfl, rfl, trivial⟩ rfl
  ·have ho := cnd0 ho hb4
   refine mvg (gf0 hb4) rfl rfl rfl <| ldg U62 (gf0 hb4) rfl rfl rfl ?_
   obtain ⟨y5, hy5, ho⟩ := bnd ho
   refine s_calll (g_duty_crew_order_ok hy5) (.v flat_bool .n) rfl (.g rfl rfl (gf0 hb4)) rfl rfl rfl .f (.c (.o (.t rfl)) (.c (.o (.t rfl)) .n)) ?_
   show SOps ..
   refine pk0 hb4 rfl (.t rfl) ?_
   cases ho
   exact s_nil fun _ _ s => fz () s ⟨rfl, rfl, rfl, trivial⟩ rfl
 ·intro _
  show SRun ..
  refine ct rfl (fun hq6 => ?_) (fun hq6 => ?_)
  ·have ho := cnd1 ho hq6
   refine rr <| sgb <| nq ?_
   cases ho
   exact r_ret (ret_of (.inr rfl) (.v rfl .n) (by decide))
  ·have ho := cnd0 ho hq6
   refine kq rfl <| rr <| mv rfl <| ld U62 rfl ?_
   obtain ⟨y7, hy7, ho⟩ := bnd ho
   refine s_calll (g_duty_crew_between_ok hy7) (.v flat_int (.v flat_int .n)) rfl (.n rfl) rfl rfl rfl .f (.c (.o (.t rfl)) (.c (.o (.t rfl)) .n)) ?_
   show SOps ..
   refine mv rfl <| ext rfl rfl <| ext rfl rfl <| sg rfl <| sg rfl <| nq <| rr <| mv rfl <| mv rfl <| nk rfl <| fa F119_2 fk_duty_crew_2 (by decide) rfl <| fa F42_3 fk_WorkRules_3 (by decide) rfl <| ld U3 rfl <| mv rfl <| ar rfl rfl .add <| cm rfl rfl .lss <| sg rfl <| nq ?_
   cases ho
   exact r_ret (ret_of (.inr rfl) (.v rfl .n) (by decide))
theorem g_duty_crew_span_ok {c_0 : duty_crew} {d_1 : Duty} {out : (Int)} (ho : g_duty_crew_span c_0 d_1 = some out) : Fun ktab 68 [.val (rPtr rduty_crew) c_0, .val rDuty d_1] [.val (rInt .i64) (out)] := by
 refine fun_of (F := Try.f68) (by rfl) (by rfl) (by rfl) (fun C hC => ?_)
 delta g_duty_crew_span at ho
 refine rr <| bx rfl <| sgc (by decide) <| nq <| r_seq ?_
 refine r_draw [] (by kernel_rfl) ?_
 refine mv rfl <| fa F62_0 fk_Duty_0 (by decide) rfl <| ld U60 rfl <| fa F62_0 fk_Duty_0 (by decide) rfl <| ld U60 rfl <| ln S60 rfl rfl rfl (.t rfl) <| arc rfl (by decide) .sub ?_
 obtain ⟨x1, hx1, ho⟩ := bnd ho
 refine ix S60 hx1 rfl rfl <| ld U78 rfl ?_
 obtain ⟨y2, hy2, ho⟩ := bnd ho
 refine s_calll (g_duty_crew_last_ok hy2) (.v (flat_pair flat_int (flat_pair flat_int (flat_pair flat_int (flat_pair flat_int flat_unit)))) .n) rfl (.n rfl) rfl rfl rfl .f (.c (.o (.t rfl)) (.c (.o (.t rfl)) .n)) ?_
 show SOps ..
 refine s_field F87_3 U3 rfl fk_Task_3 (.n rfl) rfl rfl (.t rfl) <| mv rfl <| fa F62_0 fk_Duty_0 (by decide) rfl <| ld U60 rfl ?_
 obtain ⟨x3, hx3, ho⟩ := bnd ho
 refine s_idx S60 hx3 (.n rfl) rfl rfl (.t rfl) (.i (by decide) (by decide)) <| ld U78 rfl ?_
 obtain ⟨y4, hy4, ho⟩ := bnd ho
 refine s_calll (g_duty_crew_first_ok hy4) (.v (flat_pair flat_int (flat_pair flat_int (flat_pair flat_int (flat_pair flat_int flat_unit)))) .n) rfl (.n rfl) rfl rfl rfl .f (.c (.o (.t rfl)) (.c (.o (.t rfl)) .n)) ?_
 show SOps ..
 refine s_field F87_2 U3 rfl fk_Task_2 (.n rfl) rfl rfl (.t rfl) <| ar rfl rfl .sub <| sg rfl <| nq ?_
 cases ho
 exact r_ret (ret_of (.inr rfl) (.v rfl .n) (by decide))
theorem g_duty_crew_long_ok {c_0 : duty_crew} {d_1 : Duty} {out : (Bool)} (ho : g_duty_crew_long c_0 d_1 = some out) : Fun ktab 78 [.val (rPtr rduty_crew) c_0, .val rDuty d_1] [.val rBool (out)] := by
 refine fun_of (F := Try.f78) (by rfl) (by rfl) (by rfl) (fun C hC => ?_)
 delta g_duty_crew_long at ho
 refine rr <| bx rfl <| sgb <| nq <| r_seq ?_
 refine r_draw [] (by kernel_rfl) ?_
 refine mv rfl <| ld U62 rfl ?_
 obtain ⟨y1, hy1, ho⟩ := bnd ho
 refine s_calll (g_duty_crew_span_ok hy1) (.v flat_int .n) rfl (.n rfl) rfl rfl rfl .f (.c (.o (.t rfl)) (.c (.o (.t rfl)) .n)) ?_
 show SOps ..
 refine mv rfl <| nk rfl <| fa F119_2 fk_duty_crew_2 (by decide) rfl <| fa F42_4 fk_WorkRules_4 (by decide) rfl <| ld U3 rfl <| ar rfl rfl .add <| mv rfl <| nk rfl <| fa F119_2 fk_duty_crew_2 (by decide) rfl <| fa F42_5 fk_WorkRules_5 (by decide) rfl <| ld U3 rfl <| ar rfl rfl .add <| mv rfl <| nk rfl <| fa F119_2 fk_duty_crew_2 (by decide) rfl <| fa F42_1 fk_WorkRules_1 (by decide) rfl <| ld U3 rfl <| cm rfl rfl .gtr ?_
 refine sg rfl <| nq ?_
 cases ho
 exact r_ret (ret_of (.inr rfl) (.v rfl .n) (by decide))
theorem g_duty_crew_time_ok {c_0 : duty_crew} {d_1 : Duty} {out : (Bool)} (ho : g_duty_crew_time c_0 d_1 = some out) : Fun ktab 79 [.val (rPtr rduty_crew) c_0, .val rDuty d_1] [.val rBool (out)] := by
 refine fun_of (F := Try.f79) (by rfl) (by rfl) (by rfl) (fun C hC => ?_)
 delta g_duty_crew_time at ho
 refine rr <| bx rfl <| sgb <| nq <| r_seq ?_
 refine r_draw [] (by kernel_rfl) ?_
 refine mv rfl <| nk rfl <| fa F119_2 fk_duty_crew_2 (by decide) rfl <| fa F42_4 fk_WorkRules_4 (by decide) rfl <| ld U3 rfl <| mv rfl <| nk rfl <| fa F119_2 fk_duty_crew_2 (by decide) rfl <| fa F42_5 fk_WorkRules_5 (by decide) rfl <| ld U3 rfl <| ar rfl rfl .add <| sg rfl <| nq <| r_seq <| rr <| fa F62_0 fk_Duty_0 (by decide) rfl <| ld U60 rfl <| ln S60 rfl rfl rfl (.t rfl) <| mvc (by decide) <| nq <| r_block ?_
 obtain ⟨t13, ht13, ho⟩ := bnd ho
 refine r_loop (σ := (Int × Int)) (τ := (Int)) (G := List AVal) (fun s g => ([(0, .val (rPtr rduty_crew) (c_0)), (5, .val (rInt .i64) (s.1)), (20, .val (rSlice rDutyPiece) (d_1.1)), (21, .val (rInt .i64) ((lenI d_1.1))), (22, .val (rInt .i64) (s.2))], [])) (fun b => (.exit 0, fun g => ([(0, .val (rPtr rduty_crew) (c_0)), (5, .val (rInt .i64) (b))], []))) _ [] ht13 (fun fr h s => s.pick [] ⟨rfl, rfl, rfl, rfl, rfl, trivial⟩ rfl (by decide)) ?_ ?_ ?_
 ·intro t
  exact nx
 ·clear ho
  intro s6 g7 r14 ho
  refine rr <| cm rfl rfl .lss <| nq <| r_seq <| ct rfl (fun hq8 => ?_) (fun hq8 => ?_)
  ·have ho := cnd1 ho hq8
   refine kq rfl <| r_seq <| r_block <| rr ?_
   obtain ⟨x9, hx9, ho⟩ := bnd ho
   refine ix S60 hx9 rfl rfl <| ld U78 rfl <| s_alloc (zv := .agg [.int .i64 0, .int .i64 0, .int .i64 0]) (es := [.val (rInt .i64) (0), .val (rInt .i64) (0), .val (rInt .i64) (0)]) (by kernel_rfl) (fun _ => (okint (okint (okint okn)))) rfl (.n rfl) rfl rfl ?_
   intro b10
   refine s_storebs 0 U78 rfl (c1 rfl (c1 rfl (c1 rfl cells_unit))) (by rfl) (.n rfl) rfl rfl (.t rfl) (.t rfl) (by rfl) <| s_st (st_freezeb (R := rDutyPiece) (a := x9) 0 [7] (c1 rfl (c1 rfl (c1 rfl cells_unit))) rfl rfl ⟨rfl, trivial⟩) ?_
   refine nq <| r_region <| mv rfl <| mv rfl <| ld U78 rfl ?_
   obtain ⟨y12, hy12, ho⟩ := bnd ho
   refine s_calll (g_duty_crew_lasts_ok hy12) (.v flat_int .n) rfl (.n rfl) rfl rfl rfl .f (.c (.o (.t rfl)) (.c (.o (.t rfl)) .n)) ?_
   show SOps ..
   refine ar rfl rfl .add <| sg rfl <| nq <| r_region <| arc rfl (by decide) .add <| mv rfl ?_
   cases ho
   exact s_nil fun _ _ s => fz [] s ⟨rfl, rfl, rfl, rfl, rfl, trivial⟩ rfl
  ·have ho := cnd0 ho hq8
   cases ho
   exact r_exit fun _ _ s => fz [] s ⟨rfl, rfl, trivial⟩ rfl
 ·intro g15
  show ∀ fr h, St _ [(0, .val (rPtr rduty_crew) (c_0)), (5, .val (rInt .i64) (t13))] [] fr h → _
  show SRun ..
  refine rr <| mv rfl <| mv rfl <| nk rfl <| fa F119_2 fk_duty_crew_2 (by decide) rfl <| fa F42_2 fk_WorkRules_2 (by decide) rfl <| ld U3 rfl <| cm rfl rfl .gtr <| sg rfl <| nq ?_
  cases ho
  exact r_ret (ret_of (.inr rfl) (.v rfl .n) (by decide))
theorem g_duty_crew_faults_ok {c_0 : duty_crew} {d_1 : Duty} {out : ((List Int))} (ho : g_duty_crew_faults c_0 d_1 = some out) : Fun ktab 51 [.val (rPtr rduty_crew) c_0, .val rDuty d_1] [.row (rInt .i64) (out)] := by
 refine fun_of (F := Try.f51) (by rfl) (by rfl) (by rfl) (fun C hC => ?_)
 delta g_duty_crew_faults at ho
 refine rr <| bx rfl <| s_st (st_nilrow (rInt .i64)) <| s_assign (.n rfl) rfl rfl .nilr <| nq <| rr <| mv rfl <| s_mkfn (X := (Duty)) (Y := (Bool)) (fun x => [.val rDuty (x)]) (fun y => [.val rBool (y)]) (f := (fun x => g_duty_crew_piece c_0 x)) (fun x y hf => g_duty_crew_piece_ok hf) rfl (.n rfl) rfl rfl (.c (.t rfl) .n) .n ?_
 refine mv rfl <| s_mkfn (X := (Duty)) (Y := (Bool)) (fun x => [.val rDuty (x)]) (fun y => [.val rBool (y)]) (f := (fun x => g_duty_crew_relief c_0 x)) (fun x y hf => g_duty_crew_relief_ok hf) rfl (.n rfl) rfl rfl (.c (.t rfl) .n) .n ?_
 refine mv rfl <| s_mkfn (X := (Duty)) (Y := (Bool)) (fun x => [.val rDuty (x)]) (fun y => [.val rBool (y)]) (f := (fun x => g_duty_crew_order c_0 x)) (fun x y hf => g_duty_crew_order_ok hf) rfl (.n rfl) rfl rfl (.c (.t rfl) .n) .n ?_
 refine mv rfl <| s_mkfn (X := (Duty)) (Y := (Bool)) (fun x => [.val rDuty (x)]) (fun y => [.val rBool (y)]) (f := (fun x => g_duty_crew_pause c_0 x)) (fun x y hf => g_duty_crew_pause_ok hf) rfl (.n rfl) rfl rfl (.c (.t rfl) .n) .n ?_
 refine mv rfl <| s_mkfn (X := (Duty)) (Y := (Bool)) (fun x => [.val rDuty (x)]) (fun y => [.val rBool (y)]) (f := (fun x => g_duty_crew_long c_0 x)) (fun x y hf => g_duty_crew_long_ok hf) rfl (.n rfl) rfl rfl (.c (.t rfl) .n) .n ?_
 refine mv rfl <| s_mkfn (X := (Duty)) (Y := (Bool)) (fun x => [.val rDuty (x)]) (fun y => [.val rBool (y)]) (f := (fun x => g_duty_crew_time c_0 x)) (fun x y hf => g_duty_crew_time_ok hf) rfl (.n rfl) rfl rfl (.c (.t rfl) .n) .n ?_
 refine s_builda (R := (rFn ktab (Duty) (Bool) (fun x => [.val rDuty (x)]) (fun y => [.val rBool (y)]))) (zc := [.nilfunc, .nilfunc, .nilfunc, .nilfunc, .nilfunc, .nilfunc]) AR129 (by kernel_rfl) (by rfl) (.n rfl) rfl rfl (.c (.t rfl) (.c (.t rfl) (.c (.t rfl) (.c (.t rfl) (.c (.t rfl) (.c (.t rfl) .n)))))) (by rfl) ?_
 refine s_alloc (zv := .agg [.nilfunc, .nilfunc, .nilfunc, .nilfunc, .nilfunc, .nilfunc]) (es := [.raw (.nilfunc), .raw (.nilfunc), .raw (.nilfunc), .raw (.nilfunc), .raw (.nilfunc), .raw (.nilfunc)]) (by kernel_rfl) (fun _ => (okraw (okraw (okraw (okraw (okraw (okraw okn))))))) rfl (.n rfl) rfl rfl ?_
 intro b2
 refine s_storeab 0 AR129 rfl (by rfl) (by decide) (.n rfl) rfl rfl (.t rfl) (.t rfl) (by rfl) <| nq <| rr <| s_st (st_nilrow (rInt .i64)) <| s_assign (.n rfl) rfl rfl .nilr <| nq <| r_seq <| rr <| s_loada 1 (fun _ h => by cases h <;> rfl) AR129 rfl (.n rfl) rfl rfl (.t rfl) <| mvc (by decide) <| nq <| r_block ?_
 obtain ⟨t27, ht27, ho⟩ := bnd ho
 refine r_loop (σ := ((List Int) × Int)) (τ := ((List Int))) (G := List AVal) (fun s g => ([(3, .val (rPtr rDuty) (d_1)), (6, .raw ((gh g 0))), (22, .val (rArr 6 (rFn ktab (Duty) (Bool) (fun x => [.val rDuty (x)]) (fun y => [.val rBool (y)]))) (([(fun x => g_duty_crew_piece c_0 x), (fun x => g_duty_crew_relief c_0 x), (fun x => g_duty_crew_order c_0 x), (fun x => g_duty_crew_pause c_0 x), (fun x => g_duty_crew_long c_0 x), (fun x => g_duty_crew_time c_0 x)] : (List ((Duty) → Option (Bool)))))), (23, .val (rInt .i64) (s.2))], [((gh g 0), .row (rInt .i64) (s.1))])) (fun b => (.exit 0, fun g => ([(6, .raw ((gh g 0)))], [((gh g 0), .row (rInt .i64) (b))]))) _ [.nilslice] ht27 (fun fr h s => s.pick [0] ⟨rfl, rfl, rfl, rfl, trivial⟩ rfl (by decide)) ?_ ?_ ?_
 ·intro t
  exact nx
 ·clear ho
  intro s13 g14 r28 ho
  refine rr <| cmc rfl (by decide) .lss <| nq <| r_seq <| ct rfl (fun hq18 => ?_) (fun hq18 => ?_)
  ·have ho := cnd1 ho hq18
   refine kq rfl <| r_seq <| r_block <| rr <| mv rfl ?_
   obtain ⟨x19, hx19, ho⟩ := bnd ho
   refine s_index AR129 hx19 (.n rfl) rfl rfl (.t rfl) (.t rfl) <| sg rfl <| sg rfl <| nq <| rr <| mv rfl <| ld U62 rfl ?_
   obtain ⟨y20, hy20, ho⟩ := bnd ho
   refine s_callv (X := (Duty)) (Y := (Bool)) (f := x19) (x := d_1) hy20 (.n rfl) rfl rfl rfl (.t rfl) (.c (.t rfl) .n) ?_
   show SOps ..
   refine nq <| ct rfl (fun hq21 => ?_) (fun hq21 => ?_)
   ·have ho := cnd1 ho hq21
    refine r_region <| mv rfl <| mv rfl <| s_ar (.n rfl) rfl rfl (.i (by decide) (by decide)) (.t rfl) .add <| s_bs (R := (rInt .i64)) S63 Y68 (.n rfl) rfl rfl (.c (.t rfl) .n) rfl (by decide) ?_
    obtain ⟨x22, hx22, ho⟩ := bnd ho
    refine s_app 0 S63 Y68 hx22 (.n rfl) rfl rfl rfl rfl rfl (.t rfl) rfl (.t rfl) rfl ?_
    intro v23
    refine sg rfl <| nq <| r_region <| arc rfl (by decide) .add <| mv rfl ?_
    cases ho
    exact s_nil (fun fr h s => And.intro rfl (Exists.intro [v23] (s.pick [0] ⟨rfl, rfl, rfl, rfl, trivial⟩ rfl (by decide))))
   ·have ho := cnd0 ho hq21
    refine kq rfl <| r_region <| arc rfl (by decide) .add <| mv rfl ?_
    cases ho
    exact s_nil (fun fr h s => And.intro rfl (Exists.intro [(gh g14 0)] (s.pick [0] ⟨rfl, rfl, rfl, rfl, trivial⟩ rfl (by decide))))
  ·have ho := cnd0 ho hq18
   cases ho
   exact r_exit (fun fr h s => And.intro rfl (Exists.intro [(gh g14 0)] (s.pick [0] ⟨rfl, trivial⟩ rfl (by decide))))
 ·intro g29
  show ∀ fr h, St _ [(6, .raw ((gh g29 0)))] [((gh g29 0), .row (rInt .i64) (t27))] fr h → _
  show SRun ..
  refine rr <| mv rfl <| sg rfl <| nq ?_
  cases ho
  exact r_ret (ret_of (.inr rfl) (.r 0 rfl rfl .n) (by decide))
theorem g_duty_crew_options_2_ok   {s_0 : Int} {l_1 : (List DutyPiece)} {p_2 : duty_crew} {p_3 : (List duty_option)} {out : ((List duty_option))} (ho : g_duty_crew_options_2 s_0 l_1 p_2 p_3 = some out) (b_3 : Nat) (hv_3_0 : AVal) : FunM ktab 67 [.val (rInt .u64) s_0, .val (rSlice rDutyPiece) l_1, .val (rPtr (rPtr rduty_crew)) p_2, .raw (.ptr b_3 0)] [(.ptr b_3 0, .box [.raw hv_3_0]), (hv_3_0, .row rduty_option (p_3))] [] (fun γ => [(.ptr b_3 0, .box [.raw ((gh γ 0))]), ((gh γ 0), .row rduty_option (out))]) := by
 refine funm_of (F := Try.f67) (by rfl) (by rfl) (by rfl) (fun C => ?_)
 delta g_duty_crew_options_2 at ho
 refine rr <| mv rfl <| s_build (R := rDuty) B62 (.n rfl) rfl rfl rfl (.p (.t rfl) rfl (.n rfl)) ?_
 refine s_alloc (zv := .agg [.nilslice]) (es := [.val (rSlice rDutyPiece) ([])]) (by kernel_rfl) (fun _ => (oknil okn)) rfl (.n rfl) rfl rfl ?_
 intro b1
 refine s_storebs 0 U62 rfl (c1 rfl cells_unit) (by rfl) (.n rfl) rfl rfl (.t rfl) (.t rfl) (by rfl) <| s_st (st_freezeb (R := rDuty) (a := ((l_1, ()) : Duty)) 0 [6] (c1 rfl cells_unit) rfl rfl ⟨rfl, trivial⟩) ?_
 refine nq <| rr <| ld U89 rfl <| ld U62 rfl ?_
 obtain ⟨y3, hy3, ho⟩ := bnd ho
 refine s_calll (g_duty_crew_faults_ok hy3) (.r flat_int .n) rfl (.n rfl) rfl rfl rfl .f (.c (.o (.t rfl)) (.c (.o (.t rfl)) .n)) ?_
 intro v4
 show SOps ..
 refine s_leno 0 S63 (.n rfl) rfl rfl rfl rfl rfl (.t rfl) rfl <| cmc rfl (by decide) .eql <| nq <| ct rfl (fun hq6 => ?_) (fun hq6 => ?_)
 ·have ho := cnd1 ho hq6
  refine r_draw [0] (by kernel_rfl) ?_
  refine s_loadb 1 (fun _ h => by cases h <;> rfl) (U92).agg rfl (.n rfl) rfl rfl (.t rfl) rfl <| ld U62 rfl <| mv rfl <| ld U89 rfl <| ld U62 rfl ?_
  obtain ⟨y7, hy7, ho⟩ := bnd ho
  refine s_calll (g_duty_crew_span_ok hy7) (.v flat_int .n) rfl (.n rfl) rfl rfl rfl .f (.c (.o (.t rfl)) (.c (.o (.t rfl)) .n)) ?_
  show SOps ..
  refine s_build (R := rduty_option) B99 (.n rfl) rfl rfl rfl (.p (.t rfl) rfl (.p (.t rfl) rfl (.p (.t rfl) rfl (.n rfl)))) ?_
  refine s_bs (R := rduty_option) S92 Y99 (.n rfl) rfl rfl (.c (.t rfl) .n) rfl (by decide) ?_
  obtain ⟨x8, hx8, ho⟩ := bnd ho
  refine s_app 2 S92 Y99 hx8 (.n rfl) rfl rfl rfl rfl rfl (.t rfl) rfl (.t rfl) rfl ?_
  intro v9
  refine s_storebo 2 0 (U92).sz rfl rfl (by exact Nat.le_of_ble_eq_true rfl) (.n rfl) rfl rfl (.t rfl) (.t rfl) (by rfl) ?_
  cases ho
  exact s_nil (retm_of [2, 0] [v9] (.inl rfl) .n rfl (by decide))
 ·have ho := cnd0 ho hq6
  cases ho
  exact r_skip (retm_of [1, 2] [hv_3_0] (.inl rfl) .n rfl (by decide))
theorem g_slices_insertionSortCmpFunc_duty_option_ok   {data_0 : (List duty_option)} {a_1 : Int} {b_2 : Int} {cmp_3 : ((duty_option × duty_option) → Option (Int))} {out : ((List duty_option))} (ho : g_slices_insertionSortCmpFunc_duty_option data_0 a_1 b_2 cmp_3 = some out) (v_0 : AVal) : FunM ktab 95 [.raw v_0, .val (rInt .i64) a_1, .val (rInt .i64) b_2, .val (rFn ktab (duty_option × duty_option) (Int) (fun x => [.val rduty_option (x.1), .val rduty_option (x.2)]) (fun y => [.val (rInt .i64) (y)])) cmp_3] [(v_0, .row rduty_option (data_0))] [] (fun γ => [(v_0, .row rduty_option (out))]) := by
 refine funm_of (F := Try.f95) (by rfl) (by rfl) (by rfl) (fun C => ?_)
 delta g_slices_insertionSortCmpFunc_duty_option at ho
 refine rr <| mv rfl <| arc rfl (by decide) .add <| sg rfl <| nq <| r_block ?_
 obtain ⟨t147, ht147, ho⟩ := bnd ho
 refine r_loop (σ := (Int × (List duty_option))) (τ := ((List duty_option))) (G := List AVal) (fun s g => ([(0, .raw v_0), (1, .val (rInt .i64) (a_1)), (2, .val (rInt .i64) (b_2)), (3, .val (rFn ktab (duty_option × duty_option) (Int) (fun x => [.val rduty_option (x.1), .val rduty_option (x.2)]) (fun y => [.val (rInt .i64) (y)])) (cmp_3)), (8, .val (rInt .i64) (s.1))], [(v_0, .row rduty_option (s.2))])) (fun b => (.exit 0, fun g => ([], [(v_0, .row rduty_option (b))]))) _ [] ht147 (fun fr h s => s.pick [0] ⟨rfl, rfl, rfl, rfl, rfl, trivial⟩ rfl (by decide)) ?_ ?_ ?_
 ·intro t
  exact nx
 ·clear ho
  intro s97 g98 r148 ho
  refine r_seq <| rr <| mv rfl <| mv rfl <| cm rfl rfl .lss <| nq <| ct rfl (fun hq99 => ?_) (fun hq99 => ?_)
  ·have ho := cnd1 ho hq99
   refine kq rfl <| r_seq <| r_block <| rr <| mv rfl <| sg rfl <| nq <| r_block ?_
   obtain ⟨t144, ht144, ho⟩ := bnd ho
   refine r_loop (σ := (Int × (List duty_option))) (τ := ((List duty_option))) (G := List AVal) (fun s g => ([(0, .raw v_0), (1, .val (rInt .i64) (a_1)), (2, .val (rInt .i64) (b_2)), (3, .val (rFn ktab (duty_option × duty_option) (Int) (fun x => [.val rduty_option (x.1), .val rduty_option (x.2)]) (fun y => [.val (rInt .i64) (y)])) (cmp_3)), (8, .val (rInt .i64) (s97.1)), (9, .val (rInt .i64) (s.1))], [(v_0, .row rduty_option (s.2))])) (fun b => (.exit 2, fun g => ([(0, .raw v_0), (1, .val (rInt .i64) (a_1)), (2, .val (rInt .i64) (b_2)), (3, .val (rFn ktab (duty_option × duty_option) (Int) (fun x => [.val rduty_option (x.1), .val rduty_option (x.2)]) (fun y => [.val (rInt .i64) (y)])) (cmp_3)), (8, .val (rInt .i64) (s97.1))], [(v_0, .row rduty_option (b))]))) _ [] ht144 (fun fr h s => s.pick [0] ⟨rfl, rfl, rfl, rfl, rfl, rfl, trivial⟩ rfl (by decide)) ?_ ?_ ?_
   ·intro t
    exact nx
   ·clear ho
    intro s128 g129 r145 ho
    refine r_seq <| r_seq ?_
    refine r_draw [8, 13] (by kernel_rfl) ?_
    refine mv rfl <| mv rfl <| cm rfl rfl .gtr <| mv rfl ?_
    rcases Bool.eq_false_or_eq_true ((decide (s128.1 > a_1))) with hb134 | hb134
    ·have ho := cnd1 ho hb134
     refine mvg (gt1 hb134) rfl rfl rfl <| mvg (gt1 hb134) rfl rfl rfl <| mvg (gt1 hb134) rfl rfl rfl ?_
     obtain ⟨x135, hx135, ho⟩ := bnd ho
     refine s_idxo 0 S92 hx135 (.g rfl rfl (gt1 hb134)) rfl rfl (.t rfl) rfl (.t rfl) <| s_loado 0 (fun _ h => by cases h <;> rfl) U99 FOk.self (idx_inv hx135).2.2.2 (.g rfl rfl (gt1 hb134)) rfl rfl (.t rfl) rfl <| mvg (gt1 hb134) rfl rfl rfl <| mvg (gt1 hb134) rfl rfl rfl <| s_ar (.g rfl rfl (gt1 hb134)) rfl rfl (.t rfl) (.i (by decide) (by decide)) .sub ?_
     obtain ⟨x136, hx136, ho⟩ := bnd ho
     refine s_idxo 0 S92 hx136 (.g rfl rfl (gt1 hb134)) rfl rfl (.t rfl) rfl (.t rfl) <| s_loado 0 (fun _ h => by cases h <;> rfl) U99 FOk.self (idx_inv hx136).2.2.2 (.g rfl rfl (gt1 hb134)) rfl rfl (.t rfl) rfl ?_
     obtain ⟨y137, hy137, ho⟩ := bnd ho
     refine s_callv (X := (duty_option × duty_option)) (Y := (Int)) (f := cmp_3) (x := (x135, x136)) hy137 (.g rfl rfl (gt1 hb134)) rfl rfl rfl (.t rfl) (.c (.t rfl) (.c (.t rfl) .n)) ?_
     show SOps ..
     refine s_cmp (.g rfl rfl (gt1 hb134)) rfl rfl (.t rfl) (.i (by decide) (by decide)) .lss <| pk1 hb134 rfl (.t rfl) <| nq <| ct rfl (fun hq138 => ?_) (fun hq138 => ?_)
     ·have ho := cnd1 ho hq138
      refine kq rfl <| r_seq <| r_block ?_
      refine r_draw [9, 13] (by kernel_rfl) ?_
      refine mv rfl <| mv rfl <| mv rfl <| mv rfl <| arc rfl (by decide) .sub <| mv rfl <| mv rfl <| arc rfl (by decide) .sub ?_
      obtain ⟨x139, hx139, ho⟩ := bnd ho
      refine s_idxo 0 S92 hx139 (.n rfl) rfl rfl (.t rfl) rfl (.t rfl) <| s_loado 0 (fun _ h => by cases h <;> rfl) U99 FOk.self (idx_inv hx139).2.2.2 (.n rfl) rfl rfl (.t rfl) rfl <| mv rfl <| mv rfl ?_
      obtain ⟨x140, hx140, ho⟩ := bnd ho
      refine s_idxo 0 S92 hx140 (.n rfl) rfl rfl (.t rfl) rfl (.t rfl) <| s_loado 0 (fun _ h => by cases h <;> rfl) U99 FOk.self (idx_inv hx140).2.2.2 (.n rfl) rfl rfl (.t rfl) rfl ?_
      obtain ⟨x141, hx141, ho⟩ := bnd ho
      refine s_idxo 0 S92 hx141 (.n rfl) rfl rfl (.t rfl) rfl (.t rfl) <| s_storeo 0 U99 FOk.self (idx_inv hx141).2.2.2 (.n rfl) rfl rfl (.t rfl) (.t rfl) rfl rfl ?_
      obtain ⟨x142, hx142, ho⟩ := bnd ho
      refine s_idxo 0 S92 hx142 (.n rfl) rfl rfl (.t rfl) rfl (.t rfl) <| s_storeo 0 U99 FOk.self (idx_inv hx142).2.2.2 (.n rfl) rfl rfl (.t rfl) (.t rfl) rfl rfl <| nq <| r_region <| mv rfl <| arc rfl (by decide) .sub <| sg rfl ?_
      cases ho
      exact s_nil (fun fr h s => And.intro rfl (Exists.intro [] (s.pick [0] ⟨rfl, rfl, rfl, rfl, rfl, rfl, trivial⟩ rfl (by decide))))
     ·have ho := cnd0 ho hq138
      cases ho
      exact r_exit (fun fr h s => And.intro rfl (Exists.intro [] (s.pick [0] ⟨rfl, rfl, rfl, rfl, rfl, trivial⟩ rfl (by decide))))
    ·have ho := cnd0 ho hb134
     refine skg (gt0 hb134) rfl rfl <| skg (gt0 hb134) rfl rfl <| skg (gt0 hb134) rfl rfl <| skg (gt0 hb134) rfl rfl <| skg (gt0 hb134) rfl rfl <| skg (gt0 hb134) rfl rfl <| skg (gt0 hb134) rfl rfl <| skg (gt0 hb134) rfl rfl <| skg (gt0 hb134) rfl rfl <| skg (gt0 hb134) rfl rfl <| skg (gt0 hb134) rfl rfl <| skg (gt0 hb134) rfl rfl <| pk0 hb134 rfl .b <| nq <| ct rfl (fun hq => by cases hq) (fun _ => ?_)
     cases ho
     exact r_exit (fun fr h s => And.intro rfl (Exists.intro [] (s.pick [0] ⟨rfl, rfl, rfl, rfl, rfl, trivial⟩ rfl (by decide))))
   ·intro g146
    show ∀ fr h, St _ [(0, .raw v_0), (1, .val (rInt .i64) (a_1)), (2, .val (rInt .i64) (b_2)), (3, .val (rFn ktab (duty_option × duty_option) (Int) (fun x => [.val rduty_option (x.1), .val rduty_option (x.2)]) (fun y => [.val (rInt .i64) (y)])) (cmp_3)), (8, .val (rInt .i64) (s97.1))] [(v_0, .row rduty_option (t144))] fr h → _
    show SRun ..
    refine r_region <| mv rfl <| arc rfl (by decide) .add <| sg rfl ?_
    cases ho
    exact s_nil (fun fr h s => And.intro rfl (Exists.intro [] (s.pick [0] ⟨rfl, rfl, rfl, rfl, rfl, trivial⟩ rfl (by decide))))
  ·have ho := cnd0 ho hq99
   cases ho
   exact r_exit (fun fr h s => And.intro rfl (Exists.intro [] (s.pick [0] trivial rfl (by decide))))
 ·intro g149
  show ∀ fr h, St _ [] [(v_0, .row rduty_option (t147))] fr h → _
  cases ho
  exact id (retm_of [0] [] (.inl rfl) .n rfl (by decide))
theorem g_slices_swapRangeCmpFunc_duty_option_ok   {data_0 : (List duty_option)} {a_1 : Int} {b_2 : Int} {n_3 : Int} {cmp_4 : ((duty_option × duty_option) → Option (Int))} {out : ((List duty_option))} (ho : g_slices_swapRangeCmpFunc_duty_option data_0 a_1 b_2 n_3 cmp_4 = some out) (v_0 : AVal) : FunM ktab 98 [.raw v_0, .val (rInt .i64) a_1, .val (rInt .i64) b_2, .val (rInt .i64) n_3, .val (rFn ktab (duty_option × duty_option) (Int) (fun x => [.val rduty_option (x.1), .val rduty_option (x.2)]) (fun y => [.val (rInt .i64) (y)])) cmp_4] [(v_0, .row rduty_option (data_0))] [] (fun γ => [(v_0, .row rduty_option (out))]) := by
 refine funm_of (F := Try.f98) (by rfl) (by rfl) (by rfl) (fun C => ?_)
 delta g_slices_swapRangeCmpFunc_duty_option at ho
 refine rr <| sgc (by decide) <| nq <| r_block ?_
 obtain ⟨t18, ht18, ho⟩ := bnd ho
 refine r_loop (σ := (Int × (List duty_option))) (τ := ((List duty_option))) (G := List AVal) (fun s g => ([(0, .raw v_0), (1, .val (rInt .i64) (a_1)), (2, .val (rInt .i64) (b_2)), (3, .val (rInt .i64) (n_3)), (10, .val (rInt .i64) (s.1))], [(v_0, .row rduty_option (s.2))])) (fun b => (.exit 0, fun g => ([], [(v_0, .row rduty_option (b))]))) _ [] ht18 (fun fr h s => s.pick [0] ⟨rfl, rfl, rfl, rfl, rfl, trivial⟩ rfl (by decide)) ?_ ?_ ?_
 ·intro t
  exact nx
 ·clear ho
  intro s11 g12 r19 ho
  refine r_seq <| rr <| mv rfl <| mv rfl <| cm rfl rfl .lss <| nq <| ct rfl (fun hq13 => ?_) (fun hq13 => ?_)
  ·have ho := cnd1 ho hq13
   refine kq rfl <| r_seq <| r_block ?_
   refine r_draw [13, 19] (by kernel_rfl) ?_
   refine mv rfl <| mv rfl <| mv rfl <| ar rfl rfl .add <| mv rfl <| mv rfl <| mv rfl <| ar rfl rfl .add <| mv rfl <| mv rfl <| mv rfl <| ar rfl rfl .add ?_
   obtain ⟨x14, hx14, ho⟩ := bnd ho
   refine s_idxo 0 S92 hx14 (.n rfl) rfl rfl (.t rfl) rfl (.t rfl) <| s_loado 0 (fun _ h => by cases h <;> rfl) U99 FOk.self (idx_inv hx14).2.2.2 (.n rfl) rfl rfl (.t rfl) rfl <| mv rfl <| mv rfl <| mv rfl <| ar rfl rfl .add ?_
   obtain ⟨x15, hx15, ho⟩ := bnd ho
   refine s_idxo 0 S92 hx15 (.n rfl) rfl rfl (.t rfl) rfl (.t rfl) <| s_loado 0 (fun _ h => by cases h <;> rfl) U99 FOk.self (idx_inv hx15).2.2.2 (.n rfl) rfl rfl (.t rfl) rfl ?_
   obtain ⟨x16, hx16, ho⟩ := bnd ho
   refine s_idxo 0 S92 hx16 (.n rfl) rfl rfl (.t rfl) rfl (.t rfl) <| s_storeo 0 U99 FOk.self (idx_inv hx16).2.2.2 (.n rfl) rfl rfl (.t rfl) (.t rfl) rfl rfl ?_
   obtain ⟨x17, hx17, ho⟩ := bnd ho
   refine s_idxo 0 S92 hx17 (.n rfl) rfl rfl (.t rfl) rfl (.t rfl) <| s_storeo 0 U99 FOk.self (idx_inv hx17).2.2.2 (.n rfl) rfl rfl (.t rfl) (.t rfl) rfl rfl <| nq <| r_region <| mv rfl <| arc rfl (by decide) .add <| sg rfl ?_
   cases ho
   exact s_nil (fun fr h s => And.intro rfl (Exists.intro [] (s.pick [0] ⟨rfl, rfl, rfl, rfl, rfl, trivial⟩ rfl (by decide))))
  ·have ho := cnd0 ho hq13
   cases ho
   exact r_exit (fun fr h s => And.intro rfl (Exists.intro [] (s.pick [0] trivial rfl (by decide))))
 ·intro g20
  show ∀ fr h, St _ [] [(v_0, .row rduty_option (t18))] fr h → _
  cases ho
  exact id (retm_of [0] [] (.inl rfl) .n rfl (by decide))
theorem g_slices_rotateCmpFunc_duty_option_ok   {data_0 : (List duty_option)} {a_1 : Int} {m_2 : Int} {b_3 : Int} {cmp_4 : ((duty_option × duty_option) → Option (Int))} {out : ((List duty_option))} (ho : g_slices_rotateCmpFunc_duty_option data_0 a_1 m_2 b_3 cmp_4 = some out) (v_0 : AVal) : FunM ktab 97 [.raw v_0, .val (rInt .i64) a_1, .val (rInt .i64) m_2, .val (rInt .i64) b_3, .val (rFn ktab (duty_option × duty_option) (Int) (fun x => [.val rduty_option (x.1), .val rduty_option (x.2)]) (fun y => [.val (rInt .i64) (y)])) cmp_4] [(v_0, .row rduty_option (data_0))] [] (fun γ => [(v_0, .row rduty_option (out))]) := by
 refine funm_of (F := Try.f97) (by rfl) (by rfl) (by rfl) (fun C => ?_)
 delta g_slices_rotateCmpFunc_duty_option at ho
 refine rr <| mv rfl <| mv rfl <| ar rfl rfl .sub <| sg rfl <| nq <| rr <| mv rfl <| mv rfl <| ar rfl rfl .sub <| sg rfl <| nq <| r_seq <| r_block ?_
 obtain ⟨t21, ht21, ho⟩ := bnd ho
 refine r_loop (σ := (Int × Int × (List duty_option))) (τ := (Int × (List duty_option))) (G := List AVal) (fun s g => ([(0, .raw v_0), (2, .val (rInt .i64) (m_2)), (4, .val (rFn ktab (duty_option × duty_option) (Int) (fun x => [.val rduty_option (x.1), .val rduty_option (x.2)]) (fun y => [.val (rInt .i64) (y)])) (cmp_4)), (10, .val (rInt .i64) (s.1)), (11, .val (rInt .i64) (s.2.1))], [(v_0, .row rduty_option (s.2.2))])) (fun b => (.exit 0, fun g => ([(0, .raw v_0), (2, .val (rInt .i64) (m_2)), (4, .val (rFn ktab (duty_option × duty_option) (Int) (fun x => [.val rduty_option (x.1), .val rduty_option (x.2)]) (fun y => [.val (rInt .i64) (y)])) (cmp_4)), (10, .val (rInt .i64) (b.1))], [(v_0, .row rduty_option (b.2))]))) _ [] ht21 (fun fr h s => s.pick [0] ⟨rfl, rfl, rfl, rfl, rfl, trivial⟩ rfl (by decide)) ?_ ?_ ?_
 ·intro t
  exact nx
 ·clear ho
  intro s13 g14 r22 ho
  refine r_seq <| rr <| mv rfl <| mv rfl <| cm rfl rfl .neq <| nq <| ct rfl (fun hq15 => ?_) (fun hq15 => ?_)
  ·have ho := cnd1 ho hq15
   refine kq rfl <| r_block <| rr <| mv rfl <| mv rfl <| cm rfl rfl .gtr <| nq <| ct rfl (fun hq16 => ?_) (fun hq16 => ?_)
   ·have ho := cnd1 ho hq16
    refine rr <| mv rfl <| mv rfl <| mv rfl <| ar rfl rfl .sub <| mv rfl <| mv rfl <| mv rfl ?_
    obtain ⟨y17, hy17, ho⟩ := bnd ho
    refine s_callmd [0] [] (fun _ h => by cases h) (g_slices_swapRangeCmpFunc_duty_option_ok hy17 v_0) rfl rfl (by decide) rfl (.n rfl) rfl rfl rfl .f (.c (.t rfl) (.c (.t rfl) (.c (.t rfl) (.c (.t rfl) (.c (.t rfl) .n))))) ?_
    intro g18
    show SOps ..
    refine nq <| r_region <| mv rfl <| mv rfl <| ar rfl rfl .sub <| sg rfl ?_
    cases ho
    exact s_nil (fun fr h s => And.intro rfl (Exists.intro [] (s.pick [0] ⟨rfl, rfl, rfl, rfl, rfl, trivial⟩ rfl (by decide))))
   ·have ho := cnd0 ho hq16
    refine rr <| mv rfl <| mv rfl <| mv rfl <| ar rfl rfl .sub <| mv rfl <| mv rfl <| ar rfl rfl .add <| mv rfl <| ar rfl rfl .sub <| mv rfl <| mv rfl ?_
    obtain ⟨y19, hy19, ho⟩ := bnd ho
    refine s_callmd [0] [] (fun _ h => by cases h) (g_slices_swapRangeCmpFunc_duty_option_ok hy19 v_0) rfl rfl (by decide) rfl (.n rfl) rfl rfl rfl .f (.c (.t rfl) (.c (.t rfl) (.c (.t rfl) (.c (.t rfl) (.c (.t rfl) .n))))) ?_
    intro g20
    show SOps ..
    refine nq <| r_region <| mv rfl <| mv rfl <| ar rfl rfl .sub <| sg rfl ?_
    cases ho
    exact s_nil (fun fr h s => And.intro rfl (Exists.intro [] (s.pick [0] ⟨rfl, rfl, rfl, rfl, rfl, trivial⟩ rfl (by decide))))
  ·have ho := cnd0 ho hq15
   cases ho
   exact r_exit (fun fr h s => And.intro rfl (Exists.intro [] (s.pick [0] ⟨rfl, rfl, rfl, rfl, trivial⟩ rfl (by decide))))
 ·intro g23
  show ∀ fr h, St _ [(0, .raw v_0), (2, .val (rInt .i64) (m_2)), (4, .val (rFn ktab (duty_option × duty_option) (Int) (fun x => [.val rduty_option (x.1), .val rduty_option (x.2)]) (fun y => [.val (rInt .i64) (y)])) (cmp_4)), (10, .val (rInt .i64) (t21.1))] [(v_0, .row rduty_option (t21.2))] fr h → _
  show SRun ..
  refine r_region <| mv rfl <| mv rfl <| mv rfl <| ar rfl rfl .sub <| mv rfl <| mv rfl <| mv rfl ?_
  obtain ⟨y24, hy24, ho⟩ := bnd ho
  refine s_callmd [0] [] (fun _ h => by cases h) (g_slices_swapRangeCmpFunc_duty_option_ok hy24 v_0) rfl rfl (by decide) rfl (.n rfl) rfl rfl rfl .f (.c (.t rfl) (.c (.t rfl) (.c (.t rfl) (.c (.t rfl) (.c (.t rfl) .n))))) ?_
  intro g25
  show SOps ..
  cases ho
  exact s_nil (retm_of [0] [] (.inl rfl) .n rfl (by decide))
end Go.Ai.TabYtdhenjdmpacklaa
