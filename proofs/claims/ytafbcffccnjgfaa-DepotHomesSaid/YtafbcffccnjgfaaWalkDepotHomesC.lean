/- Written by program: walks through functions. -/
import Derived.Test.YtafbcffccnjgfaaM9
namespace Go.Ai.TabYtafbcffccnjgfaa
open Go Go.Ai Go.Ai.Sx Go.Proofs
attribute [local irreducible] SOps
set_option maxRecDepth 100000
set_option maxHeartbeats 4000000
instance i5 {p_0 p_1 p_2 p_3 p_4} : FI ktab 5 (g_law09_small p_0 p_1 p_2 p_3 p_4) [.val (rSlice rTask) p_0, .val rYard p_1, .val (rSlice (rSlice (rInt .i64))) p_2, .val (rSlice (rInt .i64)) p_3, .val (rSlice (rInt .i64)) p_4] (fun out => [.val rBool (out)]) := ⟨fun out ho => by
 delta g_law09_small at ho
 refine fn fun _ _ => ?_
 refine run 7 ?_
 obtain ⟨c6, hc6, ho⟩ := bnd ho
 refine wcx c6 [2, 6] (fun t => (.normal, fun _ => ([(42, vB (t))], []))) SEL ?_ fun _ => ?_
 ·exact w hc6
 ·show SRun ..
  refine wct ho (fun hq12 ho => ?_) fun hq12 ho => ?_
  ·exact w ho
  ·refine run 7 ?_
   obtain ⟨t21, ht21, ho⟩ := bnd ho
   refine wlp ht21 [2, 6] (fun s g => ([(11, vI (s))], [])) (altX (fun b => (.exit 0, fun g => ([], []))) (fun b => (.ret, fun g => ([(10, vB (b))], [])))) [] SEL (pk []) NE (fun s16 g17 _ ho => ?_) fun g22 => ?_
   ·exact w ho
   ·rcases t21 with b23 | b24
    ·have ho := alt_l ho
     show SRun ..
     refine run 6 ?_
     obtain ⟨t33, ht33, ho⟩ := bnd ho
     refine wlp ht33 [2] (fun s g => ([(12, vI (s))], [])) (altX (fun b => (.exit 2, fun g => ([], []))) (fun b => (.ret, fun g => ([(10, vB (b))], [])))) [] SEL (pk []) NE (fun s28 g29 _ ho => ?_) fun g34 => ?_
     ·exact w ho
     ·rcases t33 with b35 | b36
      ·have ho := alt_l ho
       show SRun ..
       exact w ho
      ·have ho := alt_r ho
       cases ho; exact id (ret_of (.inr rfl) (.v rfl .n) (by decide))
    ·have ho := alt_r ho
     cases ho; exact id (ret_of (.inr rfl) (.v rfl .n) (by decide))⟩
instance i10 {a_0 b_1} : FI ktab 10 (g_ref09_Same a_0 b_1) [.val (rSlice (rInt .i64)) a_0, .val (rSlice (rInt .i64)) b_1] (fun out => [.val rBool (out)]) := ⟨fun out ho => by
 delta g_ref09_Same at ho
 refine fn fun _ _ => ?_
 refine run 13 ?_
 refine wct ho (fun hq1 ho => ?_) fun hq1 ho => ?_
 ·exact w ho
 ·refine run 7 ?_
  obtain ⟨t12, ht12, ho⟩ := bnd ho
  refine wlp ht12 [0, 1] (fun s g => ([(5, vI (s))], [])) (altX (fun b => (.exit 0, fun g => ([], []))) (fun b => (.ret, fun g => ([(4, vB (b))], [])))) [] SEL (pk []) NE (fun s6 g7 _ ho => ?_) fun g13 => ?_
  ·exact w ho
  ·rcases t12 with b14 | b15
   ·have ho := alt_l ho
    show SRun ..
    exact w ho
   ·have ho := alt_r ho
    cases ho; exact id (ret_of (.inr rfl) (.v rfl .n) (by decide))⟩
instance i18 {n_0 low_1 high_2} : FI ktab 18 (g_depot_within n_0 low_1 high_2) [vI n_0, vI low_1, vI high_2] (fun out => [.val rBool (out)]) := ⟨fun out ho => by
 delta g_depot_within at ho
 refine fn fun _ _ => ?_
 refine run 5 ?_
 obtain ⟨c2, hc2, ho⟩ := bnd ho
 refine wcx c2 [] (fun t => (.normal, fun _ => ([(6, vB (t))], []))) SEL ?_ fun _ => ?_
 ·exact w hc2
 ·show SRun ..
  cases ho; exact r_ret (ret_of (.inr rfl) (.v rfl .n) (by decide))⟩
instance i70 {s_0 f_1} : FI ktab 70 (g_slices_IndexFunc_int_int s_0 f_1) [.val (rSlice (rInt .i64)) s_0, .val (rFn ktab (Int) (Bool) (fun x => [.val (rInt .i64) (x)]) (fun y => [.val rBool (y)])) f_1] (fun out => [.val (rInt .i64) (out)]) := ⟨fun out ho => by
 delta g_slices_IndexFunc_int_int at ho
 refine fn fun _ _ => ?_
 refine run 12 ?_
 obtain ⟨t11, ht11, ho⟩ := bnd ho
 refine wlp ht11 [0, 1, 7] (fun s g => ([(8, vI (s))], [])) (altX (fun b => (.exit 0, fun g => ([], []))) (fun b => (.ret, fun g => ([(4, vI (b))], [])))) [] SEL (pk []) NE (fun s5 g6 _ ho => ?_) fun g12 => ?_
 ·refine run 5 ?_
  refine wct ho (fun hq7 ho => ?_) fun hq7 ho => ?_
  ·refine run 13 ?_
   obtain ⟨x8, hx8, ho⟩ := bnd ho
   refine run 2 ?_
   obtain ⟨y9, hy9, ho⟩ := bnd ho
   refine s_callv (X := (Int)) (Y := (Bool)) (f := f_1) (x := x8) hy9 (.n rfl) rfl rfl rfl (.t rfl) (.c (.t rfl) .n) ?_
   exact w ho
  ·cases ho; exact r_exit (lf [] [])
 ·rcases t11 with b13 | b14
  ·have ho := alt_l ho
   show SRun ..
   exact w ho
  ·have ho := alt_r ho
   cases ho; exact id (ret_of (.inr rfl) (.v rfl .n) (by decide))⟩
instance i42 {s_0 f_1} : FI ktab 42 (g_slices_ContainsFunc_int_int s_0 f_1) [.val (rSlice (rInt .i64)) s_0, .val (rFn ktab (Int) (Bool) (fun x => [.val (rInt .i64) (x)]) (fun y => [.val rBool (y)])) f_1] (fun out => [.val rBool (out)]) := ⟨fun out ho => by
 delta g_slices_ContainsFunc_int_int at ho
 refine fn fun _ _ => ?_
 exact w ho⟩
instance i57 {n_0 low_1 high_2} : FI ktab 57 (g_duty_within n_0 low_1 high_2) [vI n_0, vI low_1, vI high_2] (fun out => [.val rBool (out)]) := ⟨fun out ho => by
 delta g_duty_within at ho
 refine fn fun _ _ => ?_
 refine run 5 ?_
 obtain ⟨c2, hc2, ho⟩ := bnd ho
 refine wcx c2 [] (fun t => (.normal, fun _ => ([(6, vB (t))], []))) SEL ?_ fun _ => ?_
 ·exact w hc2
 ·show SRun ..
  cases ho; exact r_ret (ret_of (.inr rfl) (.v rfl .n) (by decide))⟩
instance i58 {d_0} : FI ktab 58 (g_duty_Check_1 d_0) [vI d_0] (fun out => [.val rBool (out)]) := ⟨fun out ho => by
 delta g_duty_Check_1 at ho
 refine fn fun _ _ => ?_
 exact w ho⟩
instance i28 {p_0 p_1} : FI ktab 28 (g_duty_Check p_0 p_1) [.val (rSlice rTask) p_0, .val rYard p_1] (fun out => [.val (rInt .i64) (out)]) := ⟨fun out ho => by
 delta g_duty_Check at ho
 refine fn fun _ _ => ?_
 refine run 14 ?_
 obtain ⟨c6, hc6, ho⟩ := bnd ho
 refine wcx c6 [0, 3, 5] (fun t => (.normal, fun _ => ([(33, vB (t))], []))) SEL ?_ fun _ => ?_
 ·exact w hc6
 ·show SRun ..
  refine wct ho (fun hq12 ho => ?_) fun hq12 ho => ?_
  ·exact w ho
  ·refine run 10 ?_
   obtain ⟨t41, ht41, ho⟩ := bnd ho
   refine wlp ht41 [0, 5, 35, 36] (fun s g => ([(37, vI (s))], [])) (altX (fun b => (.exit 0, fun g => ([], []))) (fun b => (.ret, fun g => ([(4, vI (b))], [])))) [] SEL (pk []) NE (fun s26 g27 _ ho => ?_) fun g42 => ?_
   ·refine run 5 ?_
    refine wct ho (fun hq28 ho => ?_) fun hq28 ho => ?_
    ·refine run 6 ?_
     obtain ⟨x29, hx29, ho⟩ := bnd ho
     refine run 12 ?_
     refine wbr ho (fun hb34 ho => ?_) fun hb34 ho => ?_
     ·refine run 11 ?_
      refine r_cond (.t rfl) (fun _ => ?_) (fun hq => by cases hq)
      exact w ho
     ·refine run 2 ?_
      obtain ⟨x36, hx36, ho⟩ := bnd ho
      refine run 5 ?_
      refine wbr ho (fun hb37 ho => ?_) fun hb37 ho => ?_
      ·refine run 4 ?_
       refine r_cond (.t rfl) (fun _ => ?_) (fun hq => by cases hq)
       exact w ho
      ·refine run 1 ?_
       obtain ⟨y39, hy39, ho⟩ := bnd ho
       refine s_calll (i42.ok _ hy39) (.v flat_bool .n) rfl (.g rfl rfl (gf0 hb37)) rfl rfl rfl .f (.c (.o (.t rfl)) (.c (.o (.fv (opd_fn (fun x y hf => i58.ok _ hf) rfl))) .n)) ?_
       exact w ho
    ·cases ho; exact r_exit (lf [] [])
   ·rcases t41 with b43 | b44
    ·have ho := alt_l ho
     show SRun ..
     refine run 8 ?_
     obtain ⟨t101, ht101, ho⟩ := bnd ho
     refine wlp ht101 [0, 5, 58, 59] (fun s g => ([(60, vI (s))], [])) (altX (fun b => (.exit 2, fun g => ([], []))) (fun b => (.ret, fun g => ([(4, vI (b))], [])))) [] SEL (pk []) NE (fun s72 g73 _ ho => ?_) fun g102 => ?_
     ·refine run 5 ?_
      refine wct ho (fun hq74 ho => ?_) fun hq74 ho => ?_
      ·refine run 6 ?_
       obtain ⟨x75, hx75, ho⟩ := bnd ho
       refine run 2 ?_
       refine xal (zv := .agg [.int .i64 0, .int .i64 0, .int .i64 0, .int .i64 0]) (es := [vI (0), vI (0), vI (0), vI (0)]) (by kernel_rfl) fun b76 => ?_
       refine run 2 ?_
       refine s_st (st_freezeb (R := rTask) (a := x75) 0 [9] (cells_pair (cells_one rfl) (cells_pair (cells_one rfl) (cells_pair (cells_one rfl) (cells_pair (cells_one rfl) cells_unit rfl) rfl) rfl) rfl) rfl rfl ⟨rfl, trivial⟩) ?_
       refine run 7 ?_
       refine xcl ho ?_
       intro y86 hy86 ho
       show SOps ..
       refine run 2 ?_
       refine wbr ho (fun hb87 ho => ?_) fun hb87 ho => ?_
       ·refine run 36 ?_
        refine r_cond (.t rfl) (fun _ => ?_) (fun hq => by cases hq)
        exact w ho
       ·refine run 4 ?_
        refine xcl ho ?_
        intro y89 hy89 ho
        show SOps ..
        refine run 3 ?_
        refine wbr ho (fun hb90 ho => ?_) fun hb90 ho => ?_
        ·refine run 28 ?_
         refine r_cond (.t rfl) (fun _ => ?_) (fun hq => by cases hq)
         exact w ho
        ·refine run 4 ?_
         refine xcl ho ?_
         intro y92 hy92 ho
         show SOps ..
         refine run 3 ?_
         refine wbr ho (fun hb93 ho => ?_) fun hb93 ho => ?_
         ·refine run 20 ?_
          refine r_cond (.t rfl) (fun _ => ?_) (fun hq => by cases hq)
          exact w ho
         ·refine run 5 ?_
          refine wbr ho (fun hb95 ho => ?_) fun hb95 ho => ?_
          ·refine run 15 ?_
           refine r_cond (.t rfl) (fun _ => ?_) (fun hq => by cases hq)
           exact w ho
          ·refine run 3 ?_
           refine wbr ho (fun hb97 ho => ?_) fun hb97 ho => ?_
           ·exact w ho
           ·refine run 12 ?_
            refine r_cond (.t rfl) (fun hq => by cases hq) (fun _ => ?_)
            exact w ho
      ·cases ho; exact r_exit (lf [] [])
     ·rcases t101 with b103 | b104
      ·have ho := alt_l ho
       show SRun ..
       exact w ho
      ·have ho := alt_r ho
       cases ho; exact id (ret_of (.inr rfl) (.v rfl .n) (by decide))
    ·have ho := alt_r ho
     cases ho; exact id (ret_of (.inr rfl) (.v rfl .n) (by decide))⟩
instance i31 {w_0 a_1 b_2} : FI ktab 31 (g_duty_work_follows w_0 a_1 b_2) [.val (rPtr rduty_work) w_0, vI a_1, vI b_2] (fun out => [.val rBool (out)]) := ⟨fun out ho => by
 delta g_duty_work_follows at ho
 refine fn fun _ _ => ?_
 refine run 11 ?_
 obtain ⟨x1, hx1, ho⟩ := bnd ho
 refine run 7 ?_
 obtain ⟨x2, hx2, ho⟩ := bnd ho
 refine run 2 ?_
 refine xal (zv := .agg [.int .i64 0, .int .i64 0, .int .i64 0, .int .i64 0]) (es := [vI (0), vI (0), vI (0), vI (0)]) (by kernel_rfl) fun b3 => ?_
 refine xal (zv := .agg [.int .i64 0, .int .i64 0, .int .i64 0, .int .i64 0]) (es := [vI (0), vI (0), vI (0), vI (0)]) (by kernel_rfl) fun b4 => ?_
 refine run 1 ?_
 refine s_st (st_freezeb (R := rTask) (a := x1) 1 [7] (cells_pair (cells_one rfl) (cells_pair (cells_one rfl) (cells_pair (cells_one rfl) (cells_pair (cells_one rfl) cells_unit rfl) rfl) rfl) rfl) rfl rfl ⟨rfl, trivial⟩) ?_
 refine run 1 ?_
 refine s_st (st_freezeb (R := rTask) (a := x2) 0 [8] (cells_pair (cells_one rfl) (cells_pair (cells_one rfl) (cells_pair (cells_one rfl) (cells_pair (cells_one rfl) cells_unit rfl) rfl) rfl) rfl) rfl rfl ⟨rfl, trivial⟩) ?_
 refine run 10 ?_
 obtain ⟨x5, hx5, ho⟩ := bnd ho
 refine run 4 ?_
 obtain ⟨x6, hx6, ho⟩ := bnd ho
 refine run 5 ?_
 obtain ⟨c9, hc9, ho⟩ := bnd ho
 refine wcx c9 [] (fun t => (.normal, fun _ => ([(6, vB (t))], []))) SEL ?_ fun _ => ?_
 ·exact w hc9
 ·show SRun ..
  cases ho; exact r_ret (ret_of (.inr rfl) (.v rfl .n) (by decide))⟩
instance i77 {p_0 p_1} : FI ktab 77 (g_duty_work_planned p_0 p_1) [.val (rPtr rduty_work) p_0, .val (rSlice (rSlice (rInt .i64))) p_1] (fun out => [.val rBool (out)]) := ⟨fun out ho => by
 delta g_duty_work_planned at ho
 refine fn fun _ _ => ?_
 refine run 11 ?_
 obtain ⟨x1, hx1, ho⟩ := bnd ho
 refine xmk fun v2 => ?_
 refine run 14 ?_
 obtain ⟨t458, ht458, ho⟩ := bnd ho
 refine wlp ht458 [] (fun s g => ([(0, .val (rPtr rduty_work) (p_0)), (1, .val (rSlice (rSlice (rInt .i64))) (p_1)), (5, .raw v2), (6, vI (s.1)), (17, .val (rSlice (rSlice (rInt .i64))) (p_1)), (18, vI ((lenI p_1))), (19, vI (s.2.1))], [(v2, .row rBool (s.2.2))])) (altX (fun b => (.exit 0, fun g => ([(0, .val (rPtr rduty_work) (p_0)), (6, vI (b.1))], []))) (fun b => (.ret, fun g => ([(4, vB (b))], [])))) [] SEL (pk [0]) NE (fun s297 g298 _ ho => ?_) fun g459 => ?_
 ·refine run 5 ?_
  refine wct ho (fun hq299 ho => ?_) fun hq299 ho => ?_
  ·refine run 6 ?_
   obtain ⟨x300, hx300, ho⟩ := bnd ho
   refine run 12 ?_
   refine wbr ho (fun hb306 ho => ?_) fun hb306 ho => ?_
   ·refine run 17 ?_
    refine r_cond (.t rfl) (fun _ => ?_) (fun hq => by cases hq)
    exact w ho
   ·refine run 3 ?_
    refine wbr ho (fun hb308 ho => ?_) fun hb308 ho => ?_
    ·refine run 1 ?_
     obtain ⟨x309, hx309, ho⟩ := bnd ho
     refine run 5 ?_
     obtain ⟨x310, hx310, ho⟩ := bnd ho
     refine run 2 ?_
     obtain ⟨x311, hx311, ho⟩ := bnd ho
     refine run 6 ?_
     refine wct ho (fun hq312 ho => ?_) fun hq312 ho => ?_
     ·exact w ho
     ·refine run 8 ?_
      obtain ⟨t381, ht381, ho⟩ := bnd ho
      refine wlp ht381 [0, 1, 5, 8, 17, 18, 19, 28, 29, 30, 31, 32, 33, 34, 35, 36, 37, 38, 39, 40, 41, 42, 44, 45] (fun s g => ([(6, vI (s.1)), (46, vI (s.2.1))], [(v2, .row rBool (s.2.2))])) (altX (fun b => (.exit 2, fun g => ([(6, vI (b.1))], [(v2, .row rBool (b.2))]))) (fun b => (.ret, fun g => ([(4, vB (b.1))], [])))) [] SEL (pk [0]) NE (fun s357 g358 _ ho => ?_) fun g382 => ?_
      ·refine run 5 ?_
       refine wct ho (fun hq359 ho => ?_) fun hq359 ho => ?_
       ·refine run 6 ?_
        obtain ⟨x360, hx360, ho⟩ := bnd ho
        refine run 15 ?_
        refine xcl ho ?_
        intro y368 hy368 ho
        show SOps ..
        refine run 2 ?_
        refine wbr ho (fun hb369 ho => ?_) fun hb369 ho => ?_
        ·refine run 21 ?_
         refine r_cond (.t rfl) (fun _ => ?_) (fun hq => by cases hq)
         exact w ho
        ·refine run 2 ?_
         obtain ⟨x371, hx371, ho⟩ := bnd ho
         refine run 4 ?_
         refine wbr ho (fun hb372 ho => ?_) fun hb372 ho => ?_
         ·refine run 15 ?_
          refine r_cond (.t rfl) (fun _ => ?_) (fun hq => by cases hq)
          exact w ho
         ·refine run 3 ?_
          refine wbr ho (fun hb374 ho => ?_) fun hb374 ho => ?_
          ·refine run 4 ?_
           obtain ⟨x375, hx375, ho⟩ := bnd ho
           refine run 3 ?_
           refine xcl ho ?_
           intro y376 hy376 ho
           show SOps ..
           refine run 4 ?_
           refine wct ho (fun hq377 ho => ?_) fun hq377 ho => ?_
           ·exact w ho
           ·refine run 5 ?_
            obtain ⟨x378, hx378, ho⟩ := bnd ho
            refine run 11 ?_
            cases ho; exact s_nil (lf [] [0])
          ·refine run 12 ?_
           refine r_cond (.t rfl) (fun hq => by cases hq) (fun _ => ?_)
           refine run 5 ?_
           obtain ⟨x380, hx380, ho⟩ := bnd ho
           refine run 11 ?_
           cases ho; exact s_nil (lf [] [0])
       ·cases ho; exact r_exit (lf [] [0])
      ·rcases t381 with b383 | b384
       ·have ho := alt_l ho
        show SRun ..
        refine run 3 ?_
        cases ho; exact s_nil (lf [] [0])
       ·have ho := alt_r ho
        cases ho; exact id (lf [] [])
    ·refine run 14 ?_
     refine r_cond (.t rfl) (fun hq => by cases hq) (fun _ => ?_)
     refine run 8 ?_
     obtain ⟨t454, ht454, ho⟩ := bnd ho
     refine wlp ht454 [0, 1, 5, 8, 17, 18, 19, 28, 29, 30, 42, 44, 45] (fun s g => ([(6, vI (s.1)), (46, vI (s.2.1))], [(v2, .row rBool (s.2.2))])) (altX (fun b => (.exit 2, fun g => ([(6, vI (b.1))], [(v2, .row rBool (b.2))]))) (fun b => (.ret, fun g => ([(4, vB (b.1))], [])))) [] SEL (pk [0]) NE (fun s430 g431 _ ho => ?_) fun g455 => ?_
     ·refine run 5 ?_
      refine wct ho (fun hq432 ho => ?_) fun hq432 ho => ?_
      ·refine run 6 ?_
       obtain ⟨x433, hx433, ho⟩ := bnd ho
       refine run 15 ?_
       refine xcl ho ?_
       intro y441 hy441 ho
       show SOps ..
       refine run 2 ?_
       refine wbr ho (fun hb442 ho => ?_) fun hb442 ho => ?_
       ·refine run 21 ?_
        refine r_cond (.t rfl) (fun _ => ?_) (fun hq => by cases hq)
        exact w ho
       ·refine run 2 ?_
        obtain ⟨x444, hx444, ho⟩ := bnd ho
        refine run 4 ?_
        refine wbr ho (fun hb445 ho => ?_) fun hb445 ho => ?_
        ·refine run 15 ?_
         refine r_cond (.t rfl) (fun _ => ?_) (fun hq => by cases hq)
         exact w ho
        ·refine run 3 ?_
         refine wbr ho (fun hb447 ho => ?_) fun hb447 ho => ?_
         ·refine run 4 ?_
          obtain ⟨x448, hx448, ho⟩ := bnd ho
          refine run 3 ?_
          refine xcl ho ?_
          intro y449 hy449 ho
          show SOps ..
          refine run 4 ?_
          refine wct ho (fun hq450 ho => ?_) fun hq450 ho => ?_
          ·exact w ho
          ·refine run 5 ?_
           obtain ⟨x451, hx451, ho⟩ := bnd ho
           refine run 11 ?_
           cases ho; exact s_nil (lf [] [0])
         ·refine run 12 ?_
          refine r_cond (.t rfl) (fun hq => by cases hq) (fun _ => ?_)
          refine run 5 ?_
          obtain ⟨x453, hx453, ho⟩ := bnd ho
          refine run 11 ?_
          cases ho; exact s_nil (lf [] [0])
      ·cases ho; exact r_exit (lf [] [0])
     ·rcases t454 with b456 | b457
      ·have ho := alt_l ho
       show SRun ..
       refine run 3 ?_
       cases ho; exact s_nil (lf [] [0])
      ·have ho := alt_r ho
       cases ho; exact id (lf [] [])
  ·cases ho; exact r_exit (lf [] [])
 ·rcases t458 with b460 | b461
  ·have ho := alt_l ho
   show SRun ..
   exact w ho
  ·have ho := alt_r ho
   cases ho; exact id (ret_of (.inr rfl) (.v rfl .n) (by decide))⟩
instance i78 {x_0} : FI ktab 78 (g_duty_crewed_1 x_0) [vI x_0] (fun out => [.val rBool (out)]) := ⟨fun out ho => by
 delta g_duty_crewed_1 at ho
 refine fn fun _ _ => ?_
 exact w ho⟩
instance i52 {tasks_0 y_1 cars_2 r_3} : FI ktab 52 (g_duty_crewed tasks_0 y_1 cars_2 r_3) [.val (rSlice rTask) tasks_0, .val rYard y_1, .val (rSlice (rSlice (rInt .i64))) cars_2, .val rWorkRules r_3] (fun out => [.val (rPtrN rduty_crew) (out.1), .val rBool (out.2)]) := ⟨fun out ho => by
 delta g_duty_crewed at ho
 refine fn fun _ _ => ?_
 refine run 4 ?_
 refine s_pure rfl (.n rfl) rfl (e := .val (rPtrN rduty_crew) none) (fun z fr h s => ⟨_, rfl, nilptr_ok⟩) ?_
 refine run 7 ?_
 refine xcl ho ?_
 intro y1 hy1 ho
 show SOps ..
 refine run 2 ?_
 refine wct ho (fun hq2 ho => ?_) fun hq2 ho => ?_
 ·refine run 2 ?_
  refine s_pure rfl (.n rfl) rfl (e := .val (rPtrN rduty_crew) none) (fun z fr h s => ⟨_, rfl, nilptr_ok⟩) ?_
  exact w ho
 ·refine run 15 ?_
  obtain ⟨c6, hc6, ho⟩ := bnd ho
  refine wcx c6 [10] (fun t => (.normal, fun _ => ([(45, vB (t))], []))) SEL ?_ fun _ => ?_
  ·have ho := hc6
   refine run 6 ?_
   refine xcl ho ?_
   intro y7 hy7 ho
   show SOps ..
   refine run 2 ?_
   refine wbr ho (fun hb8 ho => ?_) fun hb8 ho => ?_
   ·exact w ho
   ·refine run 13 ?_
    obtain ⟨y9, hy9, ho⟩ := bnd ho
    refine s_calll (i42.ok _ hy9) (.v flat_bool .n) rfl (.g rfl rfl (gf0 hb8)) rfl rfl rfl .f (.c (.o (.t rfl)) (.c (.o (.fv (opd_fn (fun x y hf => i78.ok _ hf) rfl))) .n)) ?_
    exact w ho
  ·show SRun ..
   refine wct ho (fun hq10 ho => ?_) fun hq10 ho => ?_
   ·refine run 2 ?_
    refine s_pure rfl (.n rfl) rfl (e := .val (rPtrN rduty_crew) none) (fun z fr h s => ⟨_, rfl, nilptr_ok⟩) ?_
    exact w ho
   ·refine run 7 ?_
    cases ho
    refine r_st (st_optn (n := 8) rfl) ?_
    exact r_ret (ret_of (.inr rfl) (.v rfl (.v rfl .n)) (by decide))⟩
instance i53 {c_0} : FI ktab 53 (g_duty_crew_pieces c_0) [.val (rPtr rduty_crew) c_0] (fun out => [.row rDutyPiece (out)]) := ⟨fun out ho => by
 delta g_duty_crew_pieces at ho
 refine fn fun _ _ => ?_
 refine run 2 ?_
 refine s_st (st_nilrow rDutyPiece) ?_
 refine s_assign (.n rfl) rfl rfl .nilr ?_
 refine run 3 ?_
 refine s_st (st_nilrow rDutyPiece) ?_
 refine s_assign (.n rfl) rfl rfl .nilr ?_
 refine run 12 ?_
 obtain ⟨t59, ht59, ho⟩ := bnd ho
 refine wlp ht59 [11, 12] (fun s g => ([(3, .raw ((gh g 0))), (13, vI (s.2))], [((gh g 0), .row rDutyPiece (s.1))])) (fun b => (.exit 0, fun g => ([(3, .raw ((gh g 0)))], [((gh g 0), .row rDutyPiece (b))]))) [.nilslice] SEL (pk [0]) NE (fun s29 g30 _ ho => ?_) fun g60 => ?_
 ·refine run 5 ?_
  refine wct ho (fun hq31 ho => ?_) fun hq31 ho => ?_
  ·refine run 6 ?_
   obtain ⟨x32, hx32, ho⟩ := bnd ho
   refine run 12 ?_
   obtain ⟨t57, ht57, ho⟩ := bnd ho
   refine wlp ht57 [4, 5, 11, 12, 13, 19] (fun s g => ([(3, .raw ((gh g 0))), (20, vI (s.2))], [((gh g 0), .row rDutyPiece (s.1))])) (fun b => (.exit 2, fun g => ([(3, .raw ((gh g 0)))], [((gh g 0), .row rDutyPiece (b))]))) [(gh g30 0)] SEL (pk [0]) NE (fun s44 g45 _ ho => ?_) fun g58 => ?_
   ·refine run 5 ?_
    refine wct ho (fun hq46 ho => ?_) fun hq46 ho => ?_
    ·refine run 14 ?_
     obtain ⟨t55, ht55, ho⟩ := bnd ho
     refine wlp ht55 [4, 5, 6, 11, 12, 13, 19, 20] (fun s g => ([(3, .raw ((gh g 0))), (7, vI (s.2))], [((gh g 0), .row rDutyPiece (s.1))])) (fun b => (.exit 4, fun g => ([(3, .raw ((gh g 0)))], [((gh g 0), .row rDutyPiece (b))]))) [(gh g45 0)] SEL (pk [0]) NE (fun s50 g51 _ ho => ?_) fun g56 => ?_
     ·refine run 8 ?_
      refine wct ho (fun hq52 ho => ?_) fun hq52 ho => ?_
      ·refine run 10 ?_
       obtain ⟨x53, hx53, ho⟩ := bnd ho
       refine xap fun v54 => ?_
       refine run 6 ?_
       cases ho; exact s_nil (lf [v54] [0])
      ·cases ho; exact r_exit (lf [(gh g51 0)] [0])
     ·show SRun ..
      refine run 3 ?_
      cases ho; exact s_nil (lf [(gh g56 0)] [0])
    ·cases ho; exact r_exit (lf [(gh g45 0)] [0])
   ·show SRun ..
    refine run 3 ?_
    cases ho; exact s_nil (lf [(gh g58 0)] [0])
  ·cases ho; exact r_exit (lf [(gh g30 0)] [0])
 ·show SRun ..
  exact w ho⟩
instance i99 {s_0 f_1} : FI ktab 99 (g_slices_IndexFunc_api_DutyPiece_api_DutyPiece s_0 f_1) [.val (rSlice rDutyPiece) s_0, .val (rFn ktab (DutyPiece) (Bool) (fun x => [.val rDutyPiece (x)]) (fun y => [.val rBool (y)])) f_1] (fun out => [.val (rInt .i64) (out)]) := ⟨fun out ho => by
 delta g_slices_IndexFunc_api_DutyPiece_api_DutyPiece at ho
 refine fn fun _ _ => ?_
 refine run 12 ?_
 obtain ⟨t11, ht11, ho⟩ := bnd ho
 refine wlp ht11 [0, 1, 7] (fun s g => ([(8, vI (s))], [])) (altX (fun b => (.exit 0, fun g => ([], []))) (fun b => (.ret, fun g => ([(4, vI (b))], [])))) [] SEL (pk []) NE (fun s5 g6 _ ho => ?_) fun g12 => ?_
 ·refine run 5 ?_
  refine wct ho (fun hq7 ho => ?_) fun hq7 ho => ?_
  ·refine run 13 ?_
   obtain ⟨x8, hx8, ho⟩ := bnd ho
   refine run 2 ?_
   obtain ⟨y9, hy9, ho⟩ := bnd ho
   refine s_callv (X := (DutyPiece)) (Y := (Bool)) (f := f_1) (x := x8) hy9 (.n rfl) rfl rfl rfl (.t rfl) (.c (.t rfl) .n) ?_
   exact w ho
  ·cases ho; exact r_exit (lf [] [])
 ·rcases t11 with b13 | b14
  ·have ho := alt_l ho
   show SRun ..
   exact w ho
  ·have ho := alt_r ho
   cases ho; exact id (ret_of (.inr rfl) (.v rfl .n) (by decide))⟩
instance i90 {s_0 f_1} : FI ktab 90 (g_slices_ContainsFunc_api_DutyPiece_api_DutyPiece s_0 f_1) [.val (rSlice rDutyPiece) s_0, .val (rFn ktab (DutyPiece) (Bool) (fun x => [.val rDutyPiece (x)]) (fun y => [.val rBool (y)])) f_1] (fun out => [.val rBool (out)]) := ⟨fun out ho => by
 delta g_slices_ContainsFunc_api_DutyPiece_api_DutyPiece at ho
 refine fn fun _ _ => ?_
 exact w ho⟩
instance i94 {c_0 p_1} : FI ktab 94 (g_duty_crew_first c_0 p_1) [.val (rPtr rduty_crew) c_0, .val rDutyPiece p_1] (fun out => [.val rTask (out)]) := ⟨fun out ho => by
 delta g_duty_crew_first at ho
 refine fn fun _ _ => ?_
 refine run 3 ?_
 refine xal (zv := .agg [.int .i64 0, .int .i64 0, .int .i64 0, .int .i64 0]) (es := [vI (0), vI (0), vI (0), vI (0)]) (by kernel_rfl) fun b1 => ?_
 refine run 16 ?_
 obtain ⟨x2, hx2, ho⟩ := bnd ho
 refine run 4 ?_
 obtain ⟨x3, hx3, ho⟩ := bnd ho
 refine run 2 ?_
 obtain ⟨x4, hx4, ho⟩ := bnd ho
 refine run 4 ?_
 cases ho; exact r_ret (ret_of (.inr rfl) (.b 0 U49 (cells_pair (cells_one rfl) (cells_pair (cells_one rfl) (cells_pair (cells_one rfl) (cells_pair (cells_one rfl) cells_unit rfl) rfl) rfl) rfl) rfl rfl .n) (by decide))⟩
instance i95 {c_0 p_1} : FI ktab 95 (g_duty_crew_last c_0 p_1) [.val (rPtr rduty_crew) c_0, .val rDutyPiece p_1] (fun out => [.val rTask (out)]) := ⟨fun out ho => by
 delta g_duty_crew_last at ho
 refine fn fun _ _ => ?_
 refine run 3 ?_
 refine xal (zv := .agg [.int .i64 0, .int .i64 0, .int .i64 0, .int .i64 0]) (es := [vI (0), vI (0), vI (0), vI (0)]) (by kernel_rfl) fun b1 => ?_
 refine run 16 ?_
 obtain ⟨x2, hx2, ho⟩ := bnd ho
 refine run 4 ?_
 obtain ⟨x3, hx3, ho⟩ := bnd ho
 refine run 2 ?_
 obtain ⟨x4, hx4, ho⟩ := bnd ho
 refine run 4 ?_
 cases ho; exact r_ret (ret_of (.inr rfl) (.b 0 U49 (cells_pair (cells_one rfl) (cells_pair (cells_one rfl) (cells_pair (cells_one rfl) (cells_pair (cells_one rfl) cells_unit rfl) rfl) rfl) rfl) rfl rfl .n) (by decide))⟩
instance i92 {c_0 p_1} : FI ktab 92 (g_duty_crew_lasts c_0 p_1) [.val (rPtr rduty_crew) c_0, .val rDutyPiece p_1] (fun out => [.val (rInt .i64) (out)]) := ⟨fun out ho => by
 delta g_duty_crew_lasts at ho
 refine fn fun _ _ => ?_
 exact w ho⟩
instance i91 {p_0 p_1} : FI ktab 91 (g_duty_crew_piece_1 p_0 p_1) [.val rDutyPiece p_0, .val (rPtr (rPtr rduty_crew)) p_1] (fun out => [.val rBool (out)]) := ⟨fun out ho => by
 delta g_duty_crew_piece_1 at ho
 refine fn fun _ _ => ?_
 exact w ho⟩
instance i79 {c_0 d_1} : FI ktab 79 (g_duty_crew_piece c_0 d_1) [.val (rPtr rduty_crew) c_0, .val rDuty d_1] (fun out => [.val rBool (out)]) := ⟨fun out ho => by
 delta g_duty_crew_piece at ho
 refine fn fun _ _ => ?_
 refine run 10 ?_
 refine s_mkfn (X := (DutyPiece)) (Y := (Bool)) (fun x => [.val rDutyPiece (x)]) (fun y => [.val rBool (y)]) (f := (fun x => g_duty_crew_piece_1 x c_0)) (fun x y hf => i91.ok _ hf) rfl (.n rfl) rfl rfl .n (.c (.t rfl) .n) ?_
 exact w ho⟩
instance i93 {p_0 p_1} : FI ktab 93 (g_duty_crew_relief_1 p_0 p_1) [.val rDutyPiece p_0, .val (rPtr (rPtr rduty_crew)) p_1] (fun out => [.val rBool (out)]) := ⟨fun out ho => by
 delta g_duty_crew_relief_1 at ho
 refine fn fun _ _ => ?_
 refine run 6 ?_
 obtain ⟨c13, hc13, ho⟩ := bnd ho
 refine wcx c13 [] (fun t => (.normal, fun _ => ([(3, vB (t))], []))) SEL ?_ fun _ => ?_
 ·exact w hc13
 ·show SRun ..
  cases ho; exact r_ret (ret_of (.inr rfl) (.v rfl .n) (by decide))⟩
instance i80 {c_0 d_1} : FI ktab 80 (g_duty_crew_relief c_0 d_1) [.val (rPtr rduty_crew) c_0, .val rDuty d_1] (fun out => [.val rBool (out)]) := ⟨fun out ho => by
 delta g_duty_crew_relief at ho
 refine fn fun _ _ => ?_
 refine run 10 ?_
 refine s_mkfn (X := (DutyPiece)) (Y := (Bool)) (fun x => [.val rDutyPiece (x)]) (fun y => [.val rBool (y)]) (f := (fun x => g_duty_crew_relief_1 x c_0)) (fun x y hf => i93.ok _ hf) rfl (.n rfl) rfl rfl .n (.c (.t rfl) .n) ?_
 exact w ho⟩
instance i96 {c_0 d_1} : FI ktab 96 (g_duty_crew_between c_0 d_1) [.val (rPtr rduty_crew) c_0, .val rDuty d_1] (fun out => [.val (rInt .i64) (out.1), .val (rInt .i64) (out.2)]) := ⟨fun out ho => by
 delta g_duty_crew_between at ho
 refine fn fun _ _ => ?_
 refine run 11 ?_
 obtain ⟨x1, hx1, ho⟩ := bnd ho
 refine run 2 ?_
 refine xcl ho ?_
 intro y2 hy2 ho
 show SOps ..
 refine run 3 ?_
 obtain ⟨x3, hx3, ho⟩ := bnd ho
 refine run 2 ?_
 refine xcl ho ?_
 intro y4 hy4 ho
 show SOps ..
 refine xal (zv := .agg [.int .i64 0, .int .i64 0, .int .i64 0, .int .i64 0]) (es := [vI (0), vI (0), vI (0), vI (0)]) (by kernel_rfl) fun b5 => ?_
 refine xal (zv := .agg [.int .i64 0, .int .i64 0, .int .i64 0, .int .i64 0]) (es := [vI (0), vI (0), vI (0), vI (0)]) (by kernel_rfl) fun b6 => ?_
 refine run 1 ?_
 refine s_st (st_freezeb (R := rTask) (a := y2) 1 [6] (cells_pair (cells_one rfl) (cells_pair (cells_one rfl) (cells_pair (cells_one rfl) (cells_pair (cells_one rfl) cells_unit rfl) rfl) rfl) rfl) rfl rfl ⟨rfl, trivial⟩) ?_
 refine run 1 ?_
 refine s_st (st_freezeb (R := rTask) (a := y4) 0 [7] (cells_pair (cells_one rfl) (cells_pair (cells_one rfl) (cells_pair (cells_one rfl) (cells_pair (cells_one rfl) cells_unit rfl) rfl) rfl) rfl) rfl rfl ⟨rfl, trivial⟩) ?_
 exact w ho⟩
instance i81 {c_0 d_1} : FI ktab 81 (g_duty_crew_order c_0 d_1) [.val (rPtr rduty_crew) c_0, .val rDuty d_1] (fun out => [.val rBool (out)]) := ⟨fun out ho => by
 delta g_duty_crew_order at ho
 refine fn fun _ _ => ?_
 refine run 13 ?_
 refine wct ho (fun hq1 ho => ?_) fun hq1 ho => ?_
 ·exact w ho
 ·refine run 5 ?_
  refine xcl ho ?_
  intro y2 hy2 ho
  show SOps ..
  refine run 7 ?_
  obtain ⟨c4, hc4, ho⟩ := bnd ho
  refine wcx c4 [] (fun t => (.normal, fun _ => ([(4, vB (t))], []))) SEL ?_ fun _ => ?_
  ·exact w hc4
  ·show SRun ..
   cases ho; exact r_ret (ret_of (.inr rfl) (.v rfl .n) (by decide))⟩
instance i82 {c_0 d_1} : FI ktab 82 (g_duty_crew_pause c_0 d_1) [.val (rPtr rduty_crew) c_0, .val rDuty d_1] (fun out => [.val rBool (out)]) := ⟨fun out ho => by
 delta g_duty_crew_pause at ho
 refine fn fun _ _ => ?_
 refine run 7 ?_
 obtain ⟨c3, hc3, ho⟩ := bnd ho
 refine wcx c3 [0, 3] (fun t => (.normal, fun _ => ([(15, vB (t))], []))) SEL ?_ fun _ => ?_
 ·exact w hc3
 ·show SRun ..
  exact w ho⟩
instance i97 {c_0 d_1} : FI ktab 97 (g_duty_crew_span c_0 d_1) [.val (rPtr rduty_crew) c_0, .val rDuty d_1] (fun out => [.val (rInt .i64) (out)]) := ⟨fun out ho => by
 delta g_duty_crew_span at ho
 refine fn fun _ _ => ?_
 exact w ho⟩
instance i83 {c_0 d_1} : FI ktab 83 (g_duty_crew_long c_0 d_1) [.val (rPtr rduty_crew) c_0, .val rDuty d_1] (fun out => [.val rBool (out)]) := ⟨fun out ho => by
 delta g_duty_crew_long at ho
 refine fn fun _ _ => ?_
 exact w ho⟩
instance i84 {c_0 d_1} : FI ktab 84 (g_duty_crew_time c_0 d_1) [.val (rPtr rduty_crew) c_0, .val rDuty d_1] (fun out => [.val rBool (out)]) := ⟨fun out ho => by
 delta g_duty_crew_time at ho
 refine fn fun _ _ => ?_
 refine run 29 ?_
 obtain ⟨t11, ht11, ho⟩ := bnd ho
 refine wlp ht11 [0, 20, 21] (fun s g => ([(5, vI (s.1)), (22, vI (s.2))], [])) (fun b => (.exit 0, fun g => ([(5, vI (b))], []))) [] SEL (pk []) NE (fun s5 g6 _ ho => ?_) fun g12 => ?_
 ·refine run 5 ?_
  refine wct ho (fun hq7 ho => ?_) fun hq7 ho => ?_
  ·refine run 5 ?_
   obtain ⟨x8, hx8, ho⟩ := bnd ho
   refine run 2 ?_
   refine xal (zv := .agg [.int .i64 0, .int .i64 0, .int .i64 0]) (es := [vI (0), vI (0), vI (0)]) (by kernel_rfl) fun b9 => ?_
   refine run 1 ?_
   refine s_st (st_freezeb (R := rDutyPiece) (a := x8) 0 [7] (cells_pair (cells_one rfl) (cells_pair (cells_one rfl) (cells_pair (cells_one rfl) cells_unit rfl) rfl) rfl) rfl rfl ⟨rfl, trivial⟩) ?_
   exact w ho
  ·cases ho; exact r_exit (lf [] [])
 ·show SRun ..
  exact w ho⟩
instance i54 {c_0 d_1} : FI ktab 54 (g_duty_crew_faults c_0 d_1) [.val (rPtr rduty_crew) c_0, .val rDuty d_1] (fun out => [.row (rInt .i64) (out)]) := ⟨fun out ho => by
 delta g_duty_crew_faults at ho
 refine fn fun _ _ => ?_
 refine run 3 ?_
 refine s_st (st_nilrow (rInt .i64)) ?_
 refine s_assign (.n rfl) rfl rfl .nilr ?_
 refine run 4 ?_
 refine s_mkfn (X := (Duty)) (Y := (Bool)) (fun x => [.val rDuty (x)]) (fun y => [.val rBool (y)]) (f := (fun x => g_duty_crew_piece c_0 x)) (fun x y hf => i79.ok _ hf) rfl (.n rfl) rfl rfl (.c (.t rfl) .n) .n ?_
 refine run 1 ?_
 refine s_mkfn (X := (Duty)) (Y := (Bool)) (fun x => [.val rDuty (x)]) (fun y => [.val rBool (y)]) (f := (fun x => g_duty_crew_relief c_0 x)) (fun x y hf => i80.ok _ hf) rfl (.n rfl) rfl rfl (.c (.t rfl) .n) .n ?_
 refine run 1 ?_
 refine s_mkfn (X := (Duty)) (Y := (Bool)) (fun x => [.val rDuty (x)]) (fun y => [.val rBool (y)]) (f := (fun x => g_duty_crew_order c_0 x)) (fun x y hf => i81.ok _ hf) rfl (.n rfl) rfl rfl (.c (.t rfl) .n) .n ?_
 refine run 1 ?_
 refine s_mkfn (X := (Duty)) (Y := (Bool)) (fun x => [.val rDuty (x)]) (fun y => [.val rBool (y)]) (f := (fun x => g_duty_crew_pause c_0 x)) (fun x y hf => i82.ok _ hf) rfl (.n rfl) rfl rfl (.c (.t rfl) .n) .n ?_
 refine run 1 ?_
 refine s_mkfn (X := (Duty)) (Y := (Bool)) (fun x => [.val rDuty (x)]) (fun y => [.val rBool (y)]) (f := (fun x => g_duty_crew_long c_0 x)) (fun x y hf => i83.ok _ hf) rfl (.n rfl) rfl rfl (.c (.t rfl) .n) .n ?_
 refine run 1 ?_
 refine s_mkfn (X := (Duty)) (Y := (Bool)) (fun x => [.val rDuty (x)]) (fun y => [.val rBool (y)]) (f := (fun x => g_duty_crew_time c_0 x)) (fun x y hf => i84.ok _ hf) rfl (.n rfl) rfl rfl (.c (.t rfl) .n) .n ?_
 refine s_builda (R := (rFn ktab (Duty) (Bool) (fun x => [.val rDuty (x)]) (fun y => [.val rBool (y)]))) (zc := [.nilfunc, .nilfunc, .nilfunc, .nilfunc, .nilfunc, .nilfunc]) AR143 (by kernel_rfl) (by rfl) (.n rfl) rfl rfl (.c (.t rfl) (.c (.t rfl) (.c (.t rfl) (.c (.t rfl) (.c (.t rfl) (.c (.t rfl) .n)))))) (by rfl) ?_
 refine xal (zv := .agg [.nilfunc, .nilfunc, .nilfunc, .nilfunc, .nilfunc, .nilfunc]) (es := [.raw (.nilfunc), .raw (.nilfunc), .raw (.nilfunc), .raw (.nilfunc), .raw (.nilfunc), .raw (.nilfunc)]) (by kernel_rfl) fun b1 => ?_
 refine s_storeab 0 AR143 rfl (by rfl) (by decide) (.n rfl) rfl rfl (.t rfl) (.t rfl) (by rfl) ?_
 refine run 3 ?_
 refine s_st (st_nilrow (rInt .i64)) ?_
 refine s_assign (.n rfl) rfl rfl .nilr ?_
 refine run 4 ?_
 refine s_loada 1 (fun _ h => by cases h <;> rfl) AR143 rfl (.n rfl) rfl rfl (.t rfl) ?_
 refine run 3 ?_
 obtain ⟨t16, ht16, ho⟩ := bnd ho
 refine wlp ht16 [3, 22] (fun s g => ([(6, .raw ((gh g 0))), (23, vI (s.2))], [((gh g 0), .row (rInt .i64) (s.1))])) (fun b => (.exit 0, fun g => ([(6, .raw ((gh g 0)))], [((gh g 0), .row (rInt .i64) (b))]))) [.nilslice] SEL (pk [0]) NE (fun s8 g9 _ ho => ?_) fun g17 => ?_
 ·refine run 5 ?_
  refine wct ho (fun hq10 ho => ?_) fun hq10 ho => ?_
  ·refine run 6 ?_
   obtain ⟨x11, hx11, ho⟩ := bnd ho
   refine run 8 ?_
   obtain ⟨y12, hy12, ho⟩ := bnd ho
   refine s_callv (X := (Duty)) (Y := (Bool)) (f := x11) (x := d_1) hy12 (.n rfl) rfl rfl rfl (.t rfl) (.c (.t rfl) .n) ?_
   show SOps ..
   refine run 1 ?_
   refine wct ho (fun hq13 ho => ?_) fun hq13 ho => ?_
   ·refine run 5 ?_
    obtain ⟨x14, hx14, ho⟩ := bnd ho
    refine xap fun v15 => ?_
    refine run 5 ?_
    cases ho; exact s_nil (lf [v15] [0])
   ·refine run 4 ?_
    cases ho; exact s_nil (lf [(gh g9 0)] [0])
  ·cases ho; exact r_exit (lf [(gh g9 0)] [0])
 ·show SRun ..
  exact w ho⟩
instance i17 {p_0 p_1 p_2 p_3} : FI ktab 17 (g_duty_Bare p_0 p_1 p_2 p_3) [.val (rSlice rTask) p_0, .val rYard p_1, .val (rSlice (rSlice (rInt .i64))) p_2, .val rWorkRules p_3] (fun out => [.row (rInt .i64) (out.1), .val (rInt .i64) (out.2)]) := ⟨fun out ho => by
 delta g_duty_Bare at ho
 refine fn fun _ _ => ?_
 refine run 4 ?_
 refine s_st (st_nilrow (rInt .i64)) ?_
 refine s_assign (.n rfl) rfl rfl .nilr ?_
 refine run 8 ?_
 refine xcl ho ?_
 intro y1 hy1 ho
 show SOps ..
 refine run 12 ?_
 refine wct ho (fun hq2 ho => ?_) fun hq2 ho => ?_
 ·refine run 2 ?_
  refine s_st (st_nilrow (rInt .i64)) ?_
  refine s_assign (.n rfl) rfl rfl .nilr ?_
  exact w ho
 ·refine run 5 ?_
  obtain ⟨x3, hx3, ho⟩ := bnd ho
  refine xmk fun v4 => ?_
  refine run 6 ?_
  obtain ⟨p5, hp5, ho⟩ := bnd ho
  refine s_st (st_someptr (n := 33) hp5 rfl) ?_
  refine xcl ho ?_
  intro y6 hy6 ho v7
  show SOps ..
  refine run 4 ?_
  obtain ⟨t76, ht76, ho⟩ := bnd ho
  refine wlp ht76 [2, 10, 12, 34, 35] (fun s g => ([(36, vI (s.1))], [(v7, .row rDutyPiece (y6)), (v4, .row rBool (s.2))])) (fun b => (.exit 0, fun g => ([], [(v4, .row rBool (b))]))) [] SEL (pk [0, 1]) NE (fun s52 g53 _ ho => ?_) fun g77 => ?_
  ·refine run 5 ?_
   refine wct ho (fun hq54 ho => ?_) fun hq54 ho => ?_
   ·refine run 5 ?_
    obtain ⟨x55, hx55, ho⟩ := bnd ho
    refine run 2 ?_
    refine xal (zv := .agg [.int .i64 0, .int .i64 0, .int .i64 0]) (es := [vI (0), vI (0), vI (0)]) (by kernel_rfl) fun b56 => ?_
    refine run 1 ?_
    refine s_st (st_freezeb (R := rDutyPiece) (a := x55) 0 [14] (cells_pair (cells_one rfl) (cells_pair (cells_one rfl) (cells_pair (cells_one rfl) cells_unit rfl) rfl) rfl) rfl rfl ⟨rfl, trivial⟩) ?_
    refine run 7 ?_
    obtain ⟨p57, hp57, ho⟩ := bnd ho
    refine s_st (st_someptr (n := 40) hp57 rfl) ?_
    refine xcl ho ?_
    intro y58 hy58 ho v59
    show SOps ..
    refine run 3 ?_
    refine wct ho (fun hq60 ho => ?_) fun hq60 ho => ?_
    ·refine run 5 ?_
     obtain ⟨x61, hx61, ho⟩ := bnd ho
     refine run 7 ?_
     obtain ⟨x62, hx62, ho⟩ := bnd ho
     refine run 5 ?_
     obtain ⟨t74, ht74, ho⟩ := bnd ho
     refine wlp ht74 [2, 10, 12, 34, 35, 36, 57, 58] (fun s g => ([(59, vI (s.1))], [(v7, .row rDutyPiece (y6)), (v4, .row rBool (s.2))])) (fun b => (.exit 2, fun g => ([], [(v7, .row rDutyPiece (y6)), (v4, .row rBool (b))]))) [] SEL (pk [1, 2]) NE (fun s69 g70 _ ho => ?_) fun g75 => ?_
     ·refine run 5 ?_
      refine wct ho (fun hq71 ho => ?_) fun hq71 ho => ?_
      ·refine run 5 ?_
       obtain ⟨x72, hx72, ho⟩ := bnd ho
       refine run 7 ?_
       obtain ⟨x73, hx73, ho⟩ := bnd ho
       refine run 6 ?_
       cases ho; exact s_nil (lf [] [0, 1])
      ·cases ho; exact r_exit (lf [] [0, 1])
     ·show SRun ..
      refine run 3 ?_
      cases ho; exact s_nil (lf [] [0, 1])
    ·refine run 4 ?_
     cases ho; exact s_nil (lf [] [1, 2])
   ·cases ho; exact r_exit (lf [] [1])
  ·show SRun ..
   refine run 2 ?_
   refine s_st (st_nilrow (rInt .i64)) ?_
   refine s_assign (.n rfl) rfl rfl .nilr ?_
   refine run 9 ?_
   obtain ⟨t90, ht90, ho⟩ := bnd ho
   refine wlp ht90 [68, 69] (fun s g => ([(17, .raw ((gh g 0))), (70, vI (s.2))], [(v4, .row rBool (t76)), ((gh g 0), .row (rInt .i64) (s.1))])) (fun b => (.exit 4, fun g => ([(17, .raw ((gh g 0)))], [((gh g 0), .row (rInt .i64) (b))]))) [.nilslice] SEL (pk [1, 0]) NE (fun s83 g84 _ ho => ?_) fun g91 => ?_
   ·refine run 5 ?_
    refine wct ho (fun hq85 ho => ?_) fun hq85 ho => ?_
    ·refine run 6 ?_
     obtain ⟨x86, hx86, ho⟩ := bnd ho
     refine run 10 ?_
     refine wct ho (fun hq87 ho => ?_) fun hq87 ho => ?_
     ·refine run 4 ?_
      obtain ⟨x88, hx88, ho⟩ := bnd ho
      refine xap fun v89 => ?_
      refine run 5 ?_
      cases ho; exact s_nil (lf [v89] [1, 0])
     ·refine run 4 ?_
      cases ho; exact s_nil (lf [(gh g84 0)] [0, 1])
    ·cases ho; exact r_exit (lf [(gh g84 0)] [1])
   ·show SRun ..
    exact w ho⟩
instance i19 {i_0 p_1 p_2} : FI ktab 19 (g_depot_Home_1 i_0 p_1 p_2) [vI i_0, .val (rPtr (rSlice rTask)) p_1, .val (rPtr (rSlice (rSlice (rInt .i64)))) p_2] (fun out => [.val (rInt .i64) (out)]) := ⟨fun out ho => by
 delta g_depot_Home_1 at ho
 refine fn fun _ _ => ?_
 exact w ho⟩
instance i20 {i_0 p_1 p_2 p_3} : FI ktab 20 (g_depot_Home_2 i_0 p_1 p_2 p_3) [vI i_0, .val (rPtr (rSlice rTask)) p_1, .val (rPtr (rSlice (rSlice (rInt .i64)))) p_2, .val (rPtr (rInt .i64)) p_3] (fun out => [.val (rInt .i64) (out)]) := ⟨fun out ho => by
 delta g_depot_Home_2 at ho
 refine fn fun _ _ => ?_
 exact w ho⟩
theorem g_slices_insertionSortCmpFunc_int_ok   {data_0 : (List Int)} {a_1 : Int} {b_2 : Int} {cmp_3 : ((Int × Int) → Option (Int))} {out : ((List Int))} (ho : g_slices_insertionSortCmpFunc_int data_0 a_1 b_2 cmp_3 = some out) (v_0 : AVal) : FunM ktab 85 [.raw v_0, .val (rInt .i64) a_1, .val (rInt .i64) b_2, .val (rFn ktab (Int × Int) (Int) (fun x => [.val (rInt .i64) (x.1), .val (rInt .i64) (x.2)]) (fun y => [.val (rInt .i64) (y)])) cmp_3] [(v_0, .row (rInt .i64) (data_0))] [] (fun γ => [(v_0, .row (rInt .i64) (out))]) := by
 refine funm_of (F := Try.f85) (by rfl) (by rfl) (by rfl) (fun C => ?_)
 delta g_slices_insertionSortCmpFunc_int at ho
 refine run 7 ?_
 obtain ⟨t144, ht144, ho⟩ := bnd ho
 refine wlp ht144 [0, 1, 2, 3] (fun s g => ([(8, vI (s.1))], [(v_0, .row (rInt .i64) (s.2))])) (fun b => (.exit 0, fun g => ([], [(v_0, .row (rInt .i64) (b))]))) [] SEL (pk [0]) NE (fun s95 g96 _ ho => ?_) fun g145 => ?_
 ·refine run 7 ?_
  refine wct ho (fun hq97 ho => ?_) fun hq97 ho => ?_
  ·refine run 9 ?_
   obtain ⟨t142, ht142, ho⟩ := bnd ho
   refine wlp ht142 [0, 1, 2, 3, 8] (fun s g => ([(9, vI (s.1))], [(v_0, .row (rInt .i64) (s.2))])) (fun b => (.exit 2, fun g => ([], [(v_0, .row (rInt .i64) (b))]))) [] SEL (pk [0]) NE (fun s126 g127 _ ho => ?_) fun g143 => ?_
   ·refine run 2 ?_
    refine r_draw [8, 13] (by kernel_rfl) ?_
    refine run 4 ?_
    refine wbr ho (fun hb132 ho => ?_) fun hb132 ho => ?_
    ·refine run 3 ?_
     obtain ⟨x133, hx133, ho⟩ := bnd ho
     refine run 5 ?_
     obtain ⟨x134, hx134, ho⟩ := bnd ho
     refine run 2 ?_
     obtain ⟨y135, hy135, ho⟩ := bnd ho
     refine s_callv (X := (Int × Int)) (Y := (Int)) (f := cmp_3) (x := (x133, x134)) hy135 (.g rfl rfl (gt1 hb132)) rfl rfl rfl (.t rfl) (.c (.t rfl) (.c (.t rfl) .n)) ?_
     show SOps ..
     refine run 3 ?_
     refine wct ho (fun hq136 ho => ?_) fun hq136 ho => ?_
     ·refine run 3 ?_
      refine r_draw [9, 13] (by kernel_rfl) ?_
      refine run 8 ?_
      obtain ⟨x137, hx137, ho⟩ := bnd ho
      refine run 4 ?_
      obtain ⟨x138, hx138, ho⟩ := bnd ho
      refine run 2 ?_
      obtain ⟨x139, hx139, ho⟩ := bnd ho
      refine run 2 ?_
      obtain ⟨x140, hx140, ho⟩ := bnd ho
      refine run 7 ?_
      cases ho; exact s_nil (lf [] [0])
     ·cases ho; exact r_exit (lf [] [0])
    ·refine run 14 ?_
     refine r_cond (.t rfl) (fun hq => by cases hq) (fun _ => ?_)
     cases ho; exact r_exit (lf [] [0])
   ·show SRun ..
    refine run 4 ?_
    cases ho; exact s_nil (lf [] [0])
  ·cases ho; exact r_exit (lf [] [0])
 ·cases ho; exact id (retm_of [0] [] (.inl rfl) .n rfl (by decide))
theorem g_slices_swapRangeCmpFunc_int_ok   {data_0 : (List Int)} {a_1 : Int} {b_2 : Int} {n_3 : Int} {cmp_4 : ((Int × Int) → Option (Int))} {out : ((List Int))} (ho : g_slices_swapRangeCmpFunc_int data_0 a_1 b_2 n_3 cmp_4 = some out) (v_0 : AVal) : FunM ktab 100 [.raw v_0, .val (rInt .i64) a_1, .val (rInt .i64) b_2, .val (rInt .i64) n_3, .val (rFn ktab (Int × Int) (Int) (fun x => [.val (rInt .i64) (x.1), .val (rInt .i64) (x.2)]) (fun y => [.val (rInt .i64) (y)])) cmp_4] [(v_0, .row (rInt .i64) (data_0))] [] (fun γ => [(v_0, .row (rInt .i64) (out))]) := by
 refine funm_of (F := Try.f100) (by rfl) (by rfl) (by rfl) (fun C => ?_)
 delta g_slices_swapRangeCmpFunc_int at ho
 refine run 5 ?_
 obtain ⟨t18, ht18, ho⟩ := bnd ho
 refine wlp ht18 [0, 1, 2, 3] (fun s g => ([(10, vI (s.1))], [(v_0, .row (rInt .i64) (s.2))])) (fun b => (.exit 0, fun g => ([], [(v_0, .row (rInt .i64) (b))]))) [] SEL (pk [0]) NE (fun s11 g12 _ ho => ?_) fun g19 => ?_
 ·refine run 7 ?_
  refine wct ho (fun hq13 ho => ?_) fun hq13 ho => ?_
  ·refine run 3 ?_
   refine r_draw [13, 19] (by kernel_rfl) ?_
   refine run 12 ?_
   obtain ⟨x14, hx14, ho⟩ := bnd ho
   refine run 6 ?_
   obtain ⟨x15, hx15, ho⟩ := bnd ho
   refine run 2 ?_
   obtain ⟨x16, hx16, ho⟩ := bnd ho
   refine run 2 ?_
   obtain ⟨x17, hx17, ho⟩ := bnd ho
   refine run 7 ?_
   cases ho; exact s_nil (lf [] [0])
  ·cases ho; exact r_exit (lf [] [0])
 ·cases ho; exact id (retm_of [0] [] (.inl rfl) .n rfl (by decide))
theorem g_slices_rotateCmpFunc_int_ok   {data_0 : (List Int)} {a_1 : Int} {m_2 : Int} {b_3 : Int} {cmp_4 : ((Int × Int) → Option (Int))} {out : ((List Int))} (ho : g_slices_rotateCmpFunc_int data_0 a_1 m_2 b_3 cmp_4 = some out) (v_0 : AVal) : FunM ktab 98 [.raw v_0, .val (rInt .i64) a_1, .val (rInt .i64) m_2, .val (rInt .i64) b_3, .val (rFn ktab (Int × Int) (Int) (fun x => [.val (rInt .i64) (x.1), .val (rInt .i64) (x.2)]) (fun y => [.val (rInt .i64) (y)])) cmp_4] [(v_0, .row (rInt .i64) (data_0))] [] (fun γ => [(v_0, .row (rInt .i64) (out))]) := by
 refine funm_of (F := Try.f98) (by rfl) (by rfl) (by rfl) (fun C => ?_)
 delta g_slices_rotateCmpFunc_int at ho
 refine run 16 ?_
 obtain ⟨t21, ht21, ho⟩ := bnd ho
 refine wlp ht21 [0, 2, 4] (fun s g => ([(10, vI (s.1)), (11, vI (s.2.1))], [(v_0, .row (rInt .i64) (s.2.2))])) (fun b => (.exit 0, fun g => ([(10, vI (b.1))], [(v_0, .row (rInt .i64) (b.2))]))) [] SEL (pk [0]) NE (fun s13 g14 _ ho => ?_) fun g22 => ?_
 ·refine run 7 ?_
  refine wct ho (fun hq15 ho => ?_) fun hq15 ho => ?_
  ·refine run 8 ?_
   refine wct ho (fun hq16 ho => ?_) fun hq16 ho => ?_
   ·refine run 9 ?_
    obtain ⟨y17, hy17, ho⟩ := bnd ho
    refine s_callmd [0] [] (fun _ h => by cases h) (g_slices_swapRangeCmpFunc_int_ok hy17 v_0) rfl rfl (by decide) rfl (.n rfl) rfl rfl rfl .f (.c (.t rfl) (.c (.t rfl) (.c (.t rfl) (.c (.t rfl) (.c (.t rfl) .n))))) ?_
    intro g18
    show SOps ..
    refine run 6 ?_
    cases ho; exact s_nil (lf [] [0])
   ·refine run 13 ?_
    obtain ⟨y19, hy19, ho⟩ := bnd ho
    refine s_callmd [0] [] (fun _ h => by cases h) (g_slices_swapRangeCmpFunc_int_ok hy19 v_0) rfl rfl (by decide) rfl (.n rfl) rfl rfl rfl .f (.c (.t rfl) (.c (.t rfl) (.c (.t rfl) (.c (.t rfl) (.c (.t rfl) .n))))) ?_
    intro g20
    show SOps ..
    refine run 6 ?_
    cases ho; exact s_nil (lf [] [0])
  ·cases ho; exact r_exit (lf [] [0])
 ·show SRun ..
  refine run 8 ?_
  obtain ⟨y23, hy23, ho⟩ := bnd ho
  refine s_callmd [0] [] (fun _ h => by cases h) (g_slices_swapRangeCmpFunc_int_ok hy23 v_0) rfl rfl (by decide) rfl (.n rfl) rfl rfl rfl .f (.c (.t rfl) (.c (.t rfl) (.c (.t rfl) (.c (.t rfl) (.c (.t rfl) .n))))) ?_
  intro g24
  show SOps ..
  cases ho; exact s_nil (retm_of [0] [] (.inl rfl) .n rfl (by decide))
theorem g_slices_symMergeCmpFunc_int_body_ok  {rec : (List Int) → Int → Int → Int → ((Int × Int) → Option (Int)) → Option ((List Int))}  (hrec : ∀ {p_0 : (List Int)} {p_1 : Int} {p_2 : Int} {p_3 : Int} {p_4 : ((Int × Int) → Option (Int))} {out : ((List Int))}, rec p_0 p_1 p_2 p_3 p_4 = some out → ∀ (v_0 : AVal), FunM ktab 86 [.raw v_0, .val (rInt .i64) p_1, .val (rInt .i64) p_2, .val (rInt .i64) p_3, .val (rFn ktab (Int × Int) (Int) (fun x => [.val (rInt .i64) (x.1), .val (rInt .i64) (x.2)]) (fun y => [.val (rInt .i64) (y)])) p_4] [(v_0, .row (rInt .i64) (p_0))] [] (fun γ => [(v_0, .row (rInt .i64) (out))])) {p_0 : (List Int)} {p_1 : Int} {p_2 : Int} {p_3 : Int} {p_4 : ((Int × Int) → Option (Int))} {out : ((List Int))} (ho : g_slices_symMergeCmpFunc_int_body rec p_0 p_1 p_2 p_3 p_4 = some out) (v_0 : AVal) : FunM ktab 86 [.raw v_0, .val (rInt .i64) p_1, .val (rInt .i64) p_2, .val (rInt .i64) p_3, .val (rFn ktab (Int × Int) (Int) (fun x => [.val (rInt .i64) (x.1), .val (rInt .i64) (x.2)]) (fun y => [.val (rInt .i64) (y)])) p_4] [(v_0, .row (rInt .i64) (p_0))] [] (fun γ => [(v_0, .row (rInt .i64) (out))]) := by
 refine funm_of (F := Try.f86) (by rfl) (by rfl) (by rfl) (fun C => ?_)
 delta g_slices_symMergeCmpFunc_int_body at ho
 refine run 8 ?_
 refine wct ho (fun hq1 ho => ?_) fun hq1 ho => ?_
 ·refine run 12 ?_
  obtain ⟨t16, ht16, ho⟩ := bnd ho
  refine wlp ht16 [0, 1, 4] (fun s g => ([(10, vI (s.1)), (11, vI (s.2))], [(v_0, .row (rInt .i64) (p_0))])) (fun b => (.exit 0, fun g => ([(10, vI (b))], [(v_0, .row (rInt .i64) (p_0))]))) [] SEL (pk [0]) NE (fun s8 g9 _ ho => ?_) fun g17 => ?_
  ·refine run 7 ?_
   refine wct ho (fun hq10 ho => ?_) fun hq10 ho => ?_
   ·refine run 8 ?_
    obtain ⟨x11, hx11, ho⟩ := bnd ho
    refine run 5 ?_
    refine r_draw [4, 8] (by kernel_rfl) ?_
    refine run 3 ?_
    obtain ⟨x12, hx12, ho⟩ := bnd ho
    refine run 4 ?_
    obtain ⟨x13, hx13, ho⟩ := bnd ho
    refine run 2 ?_
    obtain ⟨y14, hy14, ho⟩ := bnd ho
    refine s_callv (X := (Int × Int)) (Y := (Int)) (f := p_4) (x := (x12, x13)) hy14 (.n rfl) rfl rfl rfl (.t rfl) (.c (.t rfl) (.c (.t rfl) .n)) ?_
    show SOps ..
    refine run 2 ?_
    refine wct ho (fun hq15 ho => ?_) fun hq15 ho => ?_
    ·refine run 4 ?_
     cases ho; exact s_nil (lf [] [0])
    ·refine run 3 ?_
     cases ho; exact s_nil (lf [] [0])
   ·cases ho; exact r_exit (lf [] [0])
  ·show SRun ..
   refine run 7 ?_
   obtain ⟨t35, ht35, ho⟩ := bnd ho
   refine wlp ht35 [0, 10] (fun s g => ([(13, vI (s.1))], [(v_0, .row (rInt .i64) (s.2))])) (fun b => (.exit 2, fun g => ([], [(v_0, .row (rInt .i64) (b))]))) [] SEL (pk [0]) NE (fun s28 g29 _ ho => ?_) fun g36 => ?_
   ·refine run 8 ?_
    refine wct ho (fun hq30 ho => ?_) fun hq30 ho => ?_
    ·refine run 3 ?_
     refine r_draw [9, 13] (by kernel_rfl) ?_
     refine run 8 ?_
     obtain ⟨x31, hx31, ho⟩ := bnd ho
     refine run 4 ?_
     obtain ⟨x32, hx32, ho⟩ := bnd ho
     refine run 2 ?_
     obtain ⟨x33, hx33, ho⟩ := bnd ho
     refine run 2 ?_
     obtain ⟨x34, hx34, ho⟩ := bnd ho
     refine run 7 ?_
     cases ho; exact s_nil (lf [] [0])
    ·cases ho; exact r_exit (lf [] [0])
   ·show SRun ..
    cases ho; exact r_ret (retm_of [0] [] (.inr rfl) .n rfl (by decide))
 ·refine run 9 ?_
  refine wct ho (fun hq37 ho => ?_) fun hq37 ho => ?_
  ·refine run 12 ?_
   obtain ⟨t52, ht52, ho⟩ := bnd ho
   refine wlp ht52 [0, 2, 4] (fun s g => ([(14, vI (s.1)), (15, vI (s.2))], [(v_0, .row (rInt .i64) (p_0))])) (fun b => (.exit 4, fun g => ([(14, vI (b))], [(v_0, .row (rInt .i64) (p_0))]))) [] SEL (pk [0]) NE (fun s44 g45 _ ho => ?_) fun g53 => ?_
   ·refine run 7 ?_
    refine wct ho (fun hq46 ho => ?_) fun hq46 ho => ?_
    ·refine run 8 ?_
     obtain ⟨x47, hx47, ho⟩ := bnd ho
     refine run 5 ?_
     refine r_draw [4, 8] (by kernel_rfl) ?_
     refine run 3 ?_
     obtain ⟨x48, hx48, ho⟩ := bnd ho
     refine run 4 ?_
     obtain ⟨x49, hx49, ho⟩ := bnd ho
     refine run 2 ?_
     obtain ⟨y50, hy50, ho⟩ := bnd ho
     refine s_callv (X := (Int × Int)) (Y := (Int)) (f := p_4) (x := (x48, x49)) hy50 (.n rfl) rfl rfl rfl (.t rfl) (.c (.t rfl) (.c (.t rfl) .n)) ?_
     show SOps ..
     refine run 3 ?_
     refine wct ho (fun hq51 ho => ?_) fun hq51 ho => ?_
     ·refine run 4 ?_
      cases ho; exact s_nil (lf [] [0])
     ·refine run 3 ?_
      cases ho; exact s_nil (lf [] [0])
    ·cases ho; exact r_exit (lf [] [0])
   ·show SRun ..
    refine run 7 ?_
    obtain ⟨t71, ht71, ho⟩ := bnd ho
    refine wlp ht71 [0, 14] (fun s g => ([(17, vI (s.1))], [(v_0, .row (rInt .i64) (s.2))])) (fun b => (.exit 6, fun g => ([], [(v_0, .row (rInt .i64) (b))]))) [] SEL (pk [0]) NE (fun s64 g65 _ ho => ?_) fun g72 => ?_
    ·refine run 7 ?_
     refine wct ho (fun hq66 ho => ?_) fun hq66 ho => ?_
     ·refine run 3 ?_
      refine r_draw [9, 13] (by kernel_rfl) ?_
      refine run 8 ?_
      obtain ⟨x67, hx67, ho⟩ := bnd ho
      refine run 4 ?_
      obtain ⟨x68, hx68, ho⟩ := bnd ho
      refine run 2 ?_
      obtain ⟨x69, hx69, ho⟩ := bnd ho
      refine run 2 ?_
      obtain ⟨x70, hx70, ho⟩ := bnd ho
      refine run 7 ?_
      cases ho; exact s_nil (lf [] [0])
     ·cases ho; exact r_exit (lf [] [0])
    ·show SRun ..
     cases ho; exact r_ret (retm_of [0] [] (.inr rfl) .n rfl (by decide))
  ·refine run 7 ?_
   obtain ⟨x73, hx73, ho⟩ := bnd ho
   refine run 23 ?_
   refine wct ho (fun hq74 ho => ?_) fun hq74 ho => ?_
   ·refine run 19 ?_
    obtain ⟨t89, ht89, ho⟩ := bnd ho
    refine wlp ht89 [0, 1, 2, 3, 4, 18, 19, 22] (fun s g => ([(20, vI (s.1)), (21, vI (s.2))], [(v_0, .row (rInt .i64) (p_0))])) (fun b => (.exit 8, fun g => ([(20, vI (b))], [(v_0, .row (rInt .i64) (p_0))]))) [] SEL (pk [0]) NE (fun s81 g82 _ ho => ?_) fun g90 => ?_
    ·refine run 7 ?_
     refine wct ho (fun hq83 ho => ?_) fun hq83 ho => ?_
     ·refine run 8 ?_
      obtain ⟨x84, hx84, ho⟩ := bnd ho
      refine run 5 ?_
      refine r_draw [6, 10] (by kernel_rfl) ?_
      refine run 5 ?_
      obtain ⟨x85, hx85, ho⟩ := bnd ho
      refine run 4 ?_
      obtain ⟨x86, hx86, ho⟩ := bnd ho
      refine run 2 ?_
      obtain ⟨y87, hy87, ho⟩ := bnd ho
      refine s_callv (X := (Int × Int)) (Y := (Int)) (f := p_4) (x := (x85, x86)) hy87 (.n rfl) rfl rfl rfl (.t rfl) (.c (.t rfl) (.c (.t rfl) .n)) ?_
      show SOps ..
      refine run 3 ?_
      refine wct ho (fun hq88 ho => ?_) fun hq88 ho => ?_
      ·refine run 4 ?_
       cases ho; exact s_nil (lf [] [0])
      ·refine run 3 ?_
       cases ho; exact s_nil (lf [] [0])
     ·cases ho; exact r_exit (lf [] [0])
    ·show SRun ..
     refine run 9 ?_
     obtain ⟨c92, hc92, ho⟩ := bnd ho
     refine wcx c92 [0, 1, 2, 3, 4, 18, 20, 24] (fun t => (.normal, fun _ => ([(185, vB (t))], [(v_0, .row (rInt .i64) (p_0))]))) SEL ?_ fun _ => ?_
     ·have ho := hc92
      refine run 5 ?_
      refine wbr ho (fun hb93 ho => ?_) fun hb93 ho => ?_
      ·refine run 4 ?_
       cases ho; exact s_nil (lf [] [0])
      ·refine run 4 ?_
       cases ho; exact s_nil (lf [] [0])
     ·show SRun ..
      refine wct ho (fun hq94 ho => ?_) fun hq94 ho => ?_
      ·refine run 6 ?_
       obtain ⟨y95, hy95, ho⟩ := bnd ho
       refine s_callmd [0] [] (fun _ h => by cases h) (g_slices_rotateCmpFunc_int_ok hy95 v_0) rfl rfl (by decide) rfl (.n rfl) rfl rfl rfl .f (.c (.t rfl) (.c (.t rfl) (.c (.t rfl) (.c (.t rfl) (.c (.t rfl) .n))))) ?_
       intro g96
       show SOps ..
       refine run 3 ?_
       obtain ⟨c98, hc98, ho⟩ := bnd ho
       refine wcx c98 [0, 1, 3, 4, 18, 20, 24] (fun t => (.normal, fun _ => ([(199, vB (t))], [(v_0, .row (rInt .i64) (y95))]))) SEL ?_ fun _ => ?_
       ·have ho := hc98
        refine run 5 ?_
        refine wbr ho (fun hb99 ho => ?_) fun hb99 ho => ?_
        ·refine run 4 ?_
         cases ho; exact s_nil (lf [] [0])
        ·refine run 4 ?_
         cases ho; exact s_nil (lf [] [0])
       ·show SRun ..
        refine wct ho (fun hq100 ho => ?_) fun hq100 ho => ?_
        ·refine run 6 ?_
         obtain ⟨y101, hy101, ho⟩ := bnd ho
         refine s_callmd [0] [] (fun _ h => by cases h) (hrec hy101 v_0) rfl rfl (by decide) rfl (.n rfl) rfl rfl rfl .f (.c (.t rfl) (.c (.t rfl) (.c (.t rfl) (.c (.t rfl) (.c (.t rfl) .n))))) ?_
         intro g102
         show SOps ..
         refine run 2 ?_
         obtain ⟨c104, hc104, ho⟩ := bnd ho
         refine wcx c104 [0, 3, 4, 18, 24] (fun t => (.normal, fun _ => ([(213, vB (t))], [(v_0, .row (rInt .i64) (y101))]))) SEL ?_ fun _ => ?_
         ·have ho := hc104
          refine run 5 ?_
          refine wbr ho (fun hb105 ho => ?_) fun hb105 ho => ?_
          ·refine run 4 ?_
           cases ho; exact s_nil (lf [] [0])
          ·refine run 4 ?_
           cases ho; exact s_nil (lf [] [0])
         ·show SRun ..
          refine wct ho (fun hq106 ho => ?_) fun hq106 ho => ?_
          ·refine run 6 ?_
           obtain ⟨y107, hy107, ho⟩ := bnd ho
           refine s_callmd [0] [] (fun _ h => by cases h) (hrec hy107 v_0) rfl rfl (by decide) rfl (.n rfl) rfl rfl rfl .f (.c (.t rfl) (.c (.t rfl) (.c (.t rfl) (.c (.t rfl) (.c (.t rfl) .n))))) ?_
           intro g108
           show SOps ..
           cases ho; exact s_nil (retm_of [0] [] (.inl rfl) .n rfl (by decide))
          ·cases ho; exact r_skip (retm_of [0] [] (.inl rfl) .n rfl (by decide))
        ·refine run 2 ?_
         obtain ⟨c110, hc110, ho⟩ := bnd ho
         refine wcx c110 [0, 3, 4, 18, 24] (fun t => (.normal, fun _ => ([(213, vB (t))], [(v_0, .row (rInt .i64) (y95))]))) SEL ?_ fun _ => ?_
         ·have ho := hc110
          refine run 5 ?_
          refine wbr ho (fun hb111 ho => ?_) fun hb111 ho => ?_
          ·refine run 4 ?_
           cases ho; exact s_nil (lf [] [0])
          ·refine run 4 ?_
           cases ho; exact s_nil (lf [] [0])
         ·show SRun ..
          refine wct ho (fun hq112 ho => ?_) fun hq112 ho => ?_
          ·refine run 6 ?_
           obtain ⟨y113, hy113, ho⟩ := bnd ho
           refine s_callmd [0] [] (fun _ h => by cases h) (hrec hy113 v_0) rfl rfl (by decide) rfl (.n rfl) rfl rfl rfl .f (.c (.t rfl) (.c (.t rfl) (.c (.t rfl) (.c (.t rfl) (.c (.t rfl) .n))))) ?_
           intro g114
           show SOps ..
           cases ho; exact s_nil (retm_of [0] [] (.inl rfl) .n rfl (by decide))
          ·cases ho; exact r_skip (retm_of [0] [] (.inl rfl) .n rfl (by decide))
      ·refine run 3 ?_
       obtain ⟨c116, hc116, ho⟩ := bnd ho
       refine wcx c116 [0, 1, 3, 4, 18, 20, 24] (fun t => (.normal, fun _ => ([(199, vB (t))], [(v_0, .row (rInt .i64) (p_0))]))) SEL ?_ fun _ => ?_
       ·have ho := hc116
        refine run 5 ?_
        refine wbr ho (fun hb117 ho => ?_) fun hb117 ho => ?_
        ·refine run 4 ?_
         cases ho; exact s_nil (lf [] [0])
        ·refine run 4 ?_
         cases ho; exact s_nil (lf [] [0])
       ·show SRun ..
        refine wct ho (fun hq118 ho => ?_) fun hq118 ho => ?_
        ·refine run 6 ?_
         obtain ⟨y119, hy119, ho⟩ := bnd ho
         refine s_callmd [0] [] (fun _ h => by cases h) (hrec hy119 v_0) rfl rfl (by decide) rfl (.n rfl) rfl rfl rfl .f (.c (.t rfl) (.c (.t rfl) (.c (.t rfl) (.c (.t rfl) (.c (.t rfl) .n))))) ?_
         intro g120
         show SOps ..
         refine run 2 ?_
         obtain ⟨c122, hc122, ho⟩ := bnd ho
         refine wcx c122 [0, 3, 4, 18, 24] (fun t => (.normal, fun _ => ([(213, vB (t))], [(v_0, .row (rInt .i64) (y119))]))) SEL ?_ fun _ => ?_
         ·have ho := hc122
          refine run 5 ?_
          refine wbr ho (fun hb123 ho => ?_) fun hb123 ho => ?_
          ·refine run 4 ?_
           cases ho; exact s_nil (lf [] [0])
          ·refine run 4 ?_
           cases ho; exact s_nil (lf [] [0])
         ·show SRun ..
          refine wct ho (fun hq124 ho => ?_) fun hq124 ho => ?_
          ·refine run 6 ?_
           obtain ⟨y125, hy125, ho⟩ := bnd ho
           refine s_callmd [0] [] (fun _ h => by cases h) (hrec hy125 v_0) rfl rfl (by decide) rfl (.n rfl) rfl rfl rfl .f (.c (.t rfl) (.c (.t rfl) (.c (.t rfl) (.c (.t rfl) (.c (.t rfl) .n))))) ?_
           intro g126
           show SOps ..
           cases ho; exact s_nil (retm_of [0] [] (.inl rfl) .n rfl (by decide))
          ·cases ho; exact r_skip (retm_of [0] [] (.inl rfl) .n rfl (by decide))
        ·refine run 2 ?_
         obtain ⟨c128, hc128, ho⟩ := bnd ho
         refine wcx c128 [0, 3, 4, 18, 24] (fun t => (.normal, fun _ => ([(213, vB (t))], [(v_0, .row (rInt .i64) (p_0))]))) SEL ?_ fun _ => ?_
         ·have ho := hc128
          refine run 5 ?_
          refine wbr ho (fun hb129 ho => ?_) fun hb129 ho => ?_
          ·refine run 4 ?_
           cases ho; exact s_nil (lf [] [0])
          ·refine run 4 ?_
           cases ho; exact s_nil (lf [] [0])
         ·show SRun ..
          refine wct ho (fun hq130 ho => ?_) fun hq130 ho => ?_
          ·refine run 6 ?_
           obtain ⟨y131, hy131, ho⟩ := bnd ho
           refine s_callmd [0] [] (fun _ h => by cases h) (hrec hy131 v_0) rfl rfl (by decide) rfl (.n rfl) rfl rfl rfl .f (.c (.t rfl) (.c (.t rfl) (.c (.t rfl) (.c (.t rfl) (.c (.t rfl) .n))))) ?_
           intro g132
           show SOps ..
           cases ho; exact s_nil (retm_of [0] [] (.inl rfl) .n rfl (by decide))
          ·cases ho; exact r_skip (retm_of [0] [] (.inl rfl) .n rfl (by decide))
   ·refine run 17 ?_
    obtain ⟨t147, ht147, ho⟩ := bnd ho
    refine wlp ht147 [0, 1, 2, 3, 4, 18, 19, 22] (fun s g => ([(20, vI (s.1)), (21, vI (s.2))], [(v_0, .row (rInt .i64) (p_0))])) (fun b => (.exit 8, fun g => ([(20, vI (b))], [(v_0, .row (rInt .i64) (p_0))]))) [] SEL (pk [0]) NE (fun s139 g140 _ ho => ?_) fun g148 => ?_
    ·refine run 7 ?_
     refine wct ho (fun hq141 ho => ?_) fun hq141 ho => ?_
     ·refine run 8 ?_
      obtain ⟨x142, hx142, ho⟩ := bnd ho
      refine run 5 ?_
      refine r_draw [6, 10] (by kernel_rfl) ?_
      refine run 5 ?_
      obtain ⟨x143, hx143, ho⟩ := bnd ho
      refine run 4 ?_
      obtain ⟨x144, hx144, ho⟩ := bnd ho
      refine run 2 ?_
      obtain ⟨y145, hy145, ho⟩ := bnd ho
      refine s_callv (X := (Int × Int)) (Y := (Int)) (f := p_4) (x := (x143, x144)) hy145 (.n rfl) rfl rfl rfl (.t rfl) (.c (.t rfl) (.c (.t rfl) .n)) ?_
      show SOps ..
      refine run 3 ?_
      refine wct ho (fun hq146 ho => ?_) fun hq146 ho => ?_
      ·refine run 4 ?_
       cases ho; exact s_nil (lf [] [0])
      ·refine run 3 ?_
       cases ho; exact s_nil (lf [] [0])
     ·cases ho; exact r_exit (lf [] [0])
    ·show SRun ..
     refine run 9 ?_
     obtain ⟨c150, hc150, ho⟩ := bnd ho
     refine wcx c150 [0, 1, 2, 3, 4, 18, 20, 24] (fun t => (.normal, fun _ => ([(185, vB (t))], [(v_0, .row (rInt .i64) (p_0))]))) SEL ?_ fun _ => ?_
     ·have ho := hc150
      refine run 5 ?_
      refine wbr ho (fun hb151 ho => ?_) fun hb151 ho => ?_
      ·refine run 4 ?_
       cases ho; exact s_nil (lf [] [0])
      ·refine run 4 ?_
       cases ho; exact s_nil (lf [] [0])
     ·show SRun ..
      refine wct ho (fun hq152 ho => ?_) fun hq152 ho => ?_
      ·refine run 6 ?_
       obtain ⟨y153, hy153, ho⟩ := bnd ho
       refine s_callmd [0] [] (fun _ h => by cases h) (g_slices_rotateCmpFunc_int_ok hy153 v_0) rfl rfl (by decide) rfl (.n rfl) rfl rfl rfl .f (.c (.t rfl) (.c (.t rfl) (.c (.t rfl) (.c (.t rfl) (.c (.t rfl) .n))))) ?_
       intro g154
       show SOps ..
       refine run 3 ?_
       obtain ⟨c156, hc156, ho⟩ := bnd ho
       refine wcx c156 [0, 1, 3, 4, 18, 20, 24] (fun t => (.normal, fun _ => ([(199, vB (t))], [(v_0, .row (rInt .i64) (y153))]))) SEL ?_ fun _ => ?_
       ·have ho := hc156
        refine run 5 ?_
        refine wbr ho (fun hb157 ho => ?_) fun hb157 ho => ?_
        ·refine run 4 ?_
         cases ho; exact s_nil (lf [] [0])
        ·refine run 4 ?_
         cases ho; exact s_nil (lf [] [0])
       ·show SRun ..
        refine wct ho (fun hq158 ho => ?_) fun hq158 ho => ?_
        ·refine run 6 ?_
         obtain ⟨y159, hy159, ho⟩ := bnd ho
         refine s_callmd [0] [] (fun _ h => by cases h) (hrec hy159 v_0) rfl rfl (by decide) rfl (.n rfl) rfl rfl rfl .f (.c (.t rfl) (.c (.t rfl) (.c (.t rfl) (.c (.t rfl) (.c (.t rfl) .n))))) ?_
         intro g160
         show SOps ..
         refine run 2 ?_
         obtain ⟨c162, hc162, ho⟩ := bnd ho
         refine wcx c162 [0, 3, 4, 18, 24] (fun t => (.normal, fun _ => ([(213, vB (t))], [(v_0, .row (rInt .i64) (y159))]))) SEL ?_ fun _ => ?_
         ·have ho := hc162
          refine run 5 ?_
          refine wbr ho (fun hb163 ho => ?_) fun hb163 ho => ?_
          ·refine run 4 ?_
           cases ho; exact s_nil (lf [] [0])
          ·refine run 4 ?_
           cases ho; exact s_nil (lf [] [0])
         ·show SRun ..
          refine wct ho (fun hq164 ho => ?_) fun hq164 ho => ?_
          ·refine run 6 ?_
           obtain ⟨y165, hy165, ho⟩ := bnd ho
           refine s_callmd [0] [] (fun _ h => by cases h) (hrec hy165 v_0) rfl rfl (by decide) rfl (.n rfl) rfl rfl rfl .f (.c (.t rfl) (.c (.t rfl) (.c (.t rfl) (.c (.t rfl) (.c (.t rfl) .n))))) ?_
           intro g166
           show SOps ..
           cases ho; exact s_nil (retm_of [0] [] (.inl rfl) .n rfl (by decide))
          ·cases ho; exact r_skip (retm_of [0] [] (.inl rfl) .n rfl (by decide))
        ·refine run 2 ?_
         obtain ⟨c168, hc168, ho⟩ := bnd ho
         refine wcx c168 [0, 3, 4, 18, 24] (fun t => (.normal, fun _ => ([(213, vB (t))], [(v_0, .row (rInt .i64) (y153))]))) SEL ?_ fun _ => ?_
         ·have ho := hc168
          refine run 5 ?_
          refine wbr ho (fun hb169 ho => ?_) fun hb169 ho => ?_
          ·refine run 4 ?_
           cases ho; exact s_nil (lf [] [0])
          ·refine run 4 ?_
           cases ho; exact s_nil (lf [] [0])
         ·show SRun ..
          refine wct ho (fun hq170 ho => ?_) fun hq170 ho => ?_
          ·refine run 6 ?_
           obtain ⟨y171, hy171, ho⟩ := bnd ho
           refine s_callmd [0] [] (fun _ h => by cases h) (hrec hy171 v_0) rfl rfl (by decide) rfl (.n rfl) rfl rfl rfl .f (.c (.t rfl) (.c (.t rfl) (.c (.t rfl) (.c (.t rfl) (.c (.t rfl) .n))))) ?_
           intro g172
           show SOps ..
           cases ho; exact s_nil (retm_of [0] [] (.inl rfl) .n rfl (by decide))
          ·cases ho; exact r_skip (retm_of [0] [] (.inl rfl) .n rfl (by decide))
      ·refine run 3 ?_
       obtain ⟨c174, hc174, ho⟩ := bnd ho
       refine wcx c174 [0, 1, 3, 4, 18, 20, 24] (fun t => (.normal, fun _ => ([(199, vB (t))], [(v_0, .row (rInt .i64) (p_0))]))) SEL ?_ fun _ => ?_
       ·have ho := hc174
        refine run 5 ?_
        refine wbr ho (fun hb175 ho => ?_) fun hb175 ho => ?_
        ·refine run 4 ?_
         cases ho; exact s_nil (lf [] [0])
        ·refine run 4 ?_
         cases ho; exact s_nil (lf [] [0])
       ·show SRun ..
        refine wct ho (fun hq176 ho => ?_) fun hq176 ho => ?_
        ·refine run 6 ?_
         obtain ⟨y177, hy177, ho⟩ := bnd ho
         refine s_callmd [0] [] (fun _ h => by cases h) (hrec hy177 v_0) rfl rfl (by decide) rfl (.n rfl) rfl rfl rfl .f (.c (.t rfl) (.c (.t rfl) (.c (.t rfl) (.c (.t rfl) (.c (.t rfl) .n))))) ?_
         intro g178
         show SOps ..
         refine run 2 ?_
         obtain ⟨c180, hc180, ho⟩ := bnd ho
         refine wcx c180 [0, 3, 4, 18, 24] (fun t => (.normal, fun _ => ([(213, vB (t))], [(v_0, .row (rInt .i64) (y177))]))) SEL ?_ fun _ => ?_
         ·have ho := hc180
          refine run 5 ?_
          refine wbr ho (fun hb181 ho => ?_) fun hb181 ho => ?_
          ·refine run 4 ?_
           cases ho; exact s_nil (lf [] [0])
          ·refine run 4 ?_
           cases ho; exact s_nil (lf [] [0])
         ·show SRun ..
          refine wct ho (fun hq182 ho => ?_) fun hq182 ho => ?_
          ·refine run 6 ?_
           obtain ⟨y183, hy183, ho⟩ := bnd ho
           refine s_callmd [0] [] (fun _ h => by cases h) (hrec hy183 v_0) rfl rfl (by decide) rfl (.n rfl) rfl rfl rfl .f (.c (.t rfl) (.c (.t rfl) (.c (.t rfl) (.c (.t rfl) (.c (.t rfl) .n))))) ?_
           intro g184
           show SOps ..
           cases ho; exact s_nil (retm_of [0] [] (.inl rfl) .n rfl (by decide))
          ·cases ho; exact r_skip (retm_of [0] [] (.inl rfl) .n rfl (by decide))
        ·refine run 2 ?_
         obtain ⟨c186, hc186, ho⟩ := bnd ho
         refine wcx c186 [0, 3, 4, 18, 24] (fun t => (.normal, fun _ => ([(213, vB (t))], [(v_0, .row (rInt .i64) (p_0))]))) SEL ?_ fun _ => ?_
         ·have ho := hc186
          refine run 5 ?_
          refine wbr ho (fun hb187 ho => ?_) fun hb187 ho => ?_
          ·refine run 4 ?_
           cases ho; exact s_nil (lf [] [0])
          ·refine run 4 ?_
           cases ho; exact s_nil (lf [] [0])
         ·show SRun ..
          refine wct ho (fun hq188 ho => ?_) fun hq188 ho => ?_
          ·refine run 6 ?_
           obtain ⟨y189, hy189, ho⟩ := bnd ho
           refine s_callmd [0] [] (fun _ h => by cases h) (hrec hy189 v_0) rfl rfl (by decide) rfl (.n rfl) rfl rfl rfl .f (.c (.t rfl) (.c (.t rfl) (.c (.t rfl) (.c (.t rfl) (.c (.t rfl) .n))))) ?_
           intro g190
           show SOps ..
           cases ho; exact s_nil (retm_of [0] [] (.inl rfl) .n rfl (by decide))
          ·cases ho; exact r_skip (retm_of [0] [] (.inl rfl) .n rfl (by decide))
theorem g_slices_symMergeCmpFunc_int_ok   {k : Nat} {p_0 : (List Int)} {p_1 : Int} {p_2 : Int} {p_3 : Int} {p_4 : ((Int × Int) → Option (Int))} {out : ((List Int))} (ho : g_slices_symMergeCmpFunc_int k p_0 p_1 p_2 p_3 p_4 = some out) (v_0 : AVal) : FunM ktab 86 [.raw v_0, .val (rInt .i64) p_1, .val (rInt .i64) p_2, .val (rInt .i64) p_3, .val (rFn ktab (Int × Int) (Int) (fun x => [.val (rInt .i64) (x.1), .val (rInt .i64) (x.2)]) (fun y => [.val (rInt .i64) (y)])) p_4] [(v_0, .row (rInt .i64) (p_0))] [] (fun γ => [(v_0, .row (rInt .i64) (out))]) := by
 induction k generalizing p_0 p_1 p_2 p_3 p_4 out v_0 with
 | zero => cases ho
 | succ k ih => exact g_slices_symMergeCmpFunc_int_body_ok (fun h v_0 => ih h v_0) ho v_0
theorem g_slices_stableCmpFunc_int_ok   {data_0 : (List Int)} {n_1 : Int} {cmp_2 : ((Int × Int) → Option (Int))} {out : ((List Int))} (ho : g_slices_stableCmpFunc_int data_0 n_1 cmp_2 = some out) (v_0 : AVal) : FunM ktab 55 [.raw v_0, .val (rInt .i64) n_1, .val (rFn ktab (Int × Int) (Int) (fun x => [.val (rInt .i64) (x.1), .val (rInt .i64) (x.2)]) (fun y => [.val (rInt .i64) (y)])) cmp_2] [(v_0, .row (rInt .i64) (data_0))] [] (fun γ => [(v_0, .row (rInt .i64) (out))]) := by
 refine funm_of (F := Try.f55) (by rfl) (by rfl) (by rfl) (fun C => ?_)
 delta g_slices_stableCmpFunc_int at ho
 refine run 12 ?_
 obtain ⟨t12, ht12, ho⟩ := bnd ho
 refine wlp ht12 [0, 1, 2, 6] (fun s g => ([(7, vI (s.1)), (8, vI (s.2.1))], [(v_0, .row (rInt .i64) (s.2.2))])) (fun b => (.exit 0, fun g => ([(7, vI (b.1))], [(v_0, .row (rInt .i64) (b.2))]))) [] SEL (pk [0]) NE (fun s7 g8 _ ho => ?_) fun g13 => ?_
 ·refine run 7 ?_
  refine wct ho (fun hq9 ho => ?_) fun hq9 ho => ?_
  ·refine run 8 ?_
   obtain ⟨y10, hy10, ho⟩ := bnd ho
   refine s_callmd [0] [] (fun _ h => by cases h) (g_slices_insertionSortCmpFunc_int_ok hy10 v_0) rfl rfl (by decide) rfl (.n rfl) rfl rfl rfl .f (.c (.t rfl) (.c (.t rfl) (.c (.t rfl) (.c (.t rfl) .n)))) ?_
   intro g11
   show SOps ..
   refine run 11 ?_
   cases ho; exact s_nil (lf [] [0])
  ·cases ho; exact r_exit (lf [] [0])
 ·show SRun ..
  refine run 6 ?_
  obtain ⟨y14, hy14, ho⟩ := bnd ho
  refine s_callmd [0] [] (fun _ h => by cases h) (g_slices_insertionSortCmpFunc_int_ok hy14 v_0) rfl rfl (by decide) rfl (.n rfl) rfl rfl rfl .f (.c (.t rfl) (.c (.t rfl) (.c (.t rfl) (.c (.t rfl) .n)))) ?_
  intro g15
  show SOps ..
  refine run 2 ?_
  obtain ⟨t69, ht69, ho⟩ := bnd ho
  refine wlp ht69 [0, 1, 2] (fun s g => ([(6, vI (s.1))], [(v_0, .row (rInt .i64) (s.2))])) (fun b => (.exit 2, fun g => ([], [(v_0, .row (rInt .i64) (b))]))) [] SEL (pk [0]) NE (fun s50 g51 _ ho => ?_) fun g70 => ?_
  ·refine run 7 ?_
   refine wct ho (fun hq52 ho => ?_) fun hq52 ho => ?_
   ·refine run 11 ?_
    obtain ⟨t64, ht64, ho⟩ := bnd ho
    refine wlp ht64 [0, 1, 2, 6] (fun s g => ([(7, vI (s.1)), (8, vI (s.2.1))], [(v_0, .row (rInt .i64) (s.2.2))])) (fun b => (.exit 4, fun g => ([(7, vI (b.1))], [(v_0, .row (rInt .i64) (b.2))]))) [] SEL (pk [0]) NE (fun s59 g60 _ ho => ?_) fun g65 => ?_
    ·refine run 7 ?_
     refine wct ho (fun hq61 ho => ?_) fun hq61 ho => ?_
     ·refine run 11 ?_
      obtain ⟨y62, hy62, ho⟩ := bnd ho
      refine s_callmd [0] [] (fun _ h => by cases h) (g_slices_symMergeCmpFunc_int_ok hy62 v_0) rfl rfl (by decide) rfl (.n rfl) rfl rfl rfl .f (.c (.t rfl) (.c (.t rfl) (.c (.t rfl) (.c (.t rfl) (.c (.t rfl) .n))))) ?_
      intro g63
      show SOps ..
      refine run 12 ?_
      cases ho; exact s_nil (lf [] [0])
     ·cases ho; exact r_exit (lf [] [0])
    ·show SRun ..
     refine run 14 ?_
     refine wct ho (fun hq66 ho => ?_) fun hq66 ho => ?_
     ·refine run 6 ?_
      obtain ⟨y67, hy67, ho⟩ := bnd ho
      refine s_callmd [0] [] (fun _ h => by cases h) (g_slices_symMergeCmpFunc_int_ok hy67 v_0) rfl rfl (by decide) rfl (.n rfl) rfl rfl rfl .f (.c (.t rfl) (.c (.t rfl) (.c (.t rfl) (.c (.t rfl) (.c (.t rfl) .n))))) ?_
      intro g68
      show SOps ..
      refine run 5 ?_
      cases ho; exact s_nil (lf [] [0])
     ·refine run 5 ?_
      cases ho; exact s_nil (lf [] [0])
   ·cases ho; exact r_exit (lf [] [0])
  ·cases ho; exact id (retm_of [0] [] (.inl rfl) .n rfl (by decide))
theorem g_slices_SortStableFunc_int_int_ok   {x_0 : (List Int)} {cmp_1 : ((Int × Int) → Option (Int))} {out : ((List Int))} (ho : g_slices_SortStableFunc_int_int x_0 cmp_1 = some out) (v_0 : AVal) : FunM ktab 21 [.raw v_0, .val (rFn ktab (Int × Int) (Int) (fun x => [.val (rInt .i64) (x.1), .val (rInt .i64) (x.2)]) (fun y => [.val (rInt .i64) (y)])) cmp_1] [(v_0, .row (rInt .i64) (x_0))] [] (fun γ => [(v_0, .row (rInt .i64) (out))]) := by
 refine funm_of (F := Try.f21) (by rfl) (by rfl) (by rfl) (fun C => ?_)
 delta g_slices_SortStableFunc_int_int at ho
 refine run 5 ?_
 obtain ⟨y1, hy1, ho⟩ := bnd ho
 refine s_callmd [0] [] (fun _ h => by cases h) (g_slices_stableCmpFunc_int_ok hy1 v_0) rfl rfl (by decide) rfl (.n rfl) rfl rfl rfl .f (.c (.t rfl) (.c (.t rfl) (.c (.t rfl) .n))) ?_
 intro g2
 show SOps ..
 cases ho; exact s_nil (retm_of [0] [] (.inl rfl) .n rfl (by decide))
instance i22 {a_0 b_1 p_2} : FI ktab 22 (g_depot_Home_3 a_0 b_1 p_2) [vI a_0, vI b_1, .val (rPtr (rFn ktab (Int) (Int) (fun x => [.val (rInt .i64) (x)]) (fun y => [.val (rInt .i64) (y)]))) p_2] (fun out => [.val (rInt .i64) (out)]) := ⟨fun out ho => by
 delta g_depot_Home_3 at ho
 refine fn fun _ _ => ?_
 refine run 8 ?_
 obtain ⟨y1, hy1, ho⟩ := bnd ho
 refine s_callv (X := (Int)) (Y := (Int)) (f := p_2) (x := a_0) hy1 (.n rfl) rfl rfl rfl (.t rfl) (.c (.t rfl) .n) ?_
 show SOps ..
 refine run 2 ?_
 obtain ⟨y2, hy2, ho⟩ := bnd ho
 refine s_callv (X := (Int)) (Y := (Int)) (f := p_2) (x := b_1) hy2 (.n rfl) rfl rfl rfl (.t rfl) (.c (.t rfl) .n) ?_
 exact w ho⟩
instance i23 {a_0 b_1 p_2} : FI ktab 23 (g_depot_Home_4 a_0 b_1 p_2) [vI a_0, vI b_1, .val (rPtr (rFn ktab (Int) (Int) (fun x => [.val (rInt .i64) (x)]) (fun y => [.val (rInt .i64) (y)]))) p_2] (fun out => [.val (rInt .i64) (out)]) := ⟨fun out ho => by
 delta g_depot_Home_4 at ho
 refine fn fun _ _ => ?_
 refine run 8 ?_
 obtain ⟨y1, hy1, ho⟩ := bnd ho
 refine s_callv (X := (Int)) (Y := (Int)) (f := p_2) (x := a_0) hy1 (.n rfl) rfl rfl rfl (.t rfl) (.c (.t rfl) .n) ?_
 show SOps ..
 refine run 2 ?_
 obtain ⟨y2, hy2, ho⟩ := bnd ho
 refine s_callv (X := (Int)) (Y := (Int)) (f := p_2) (x := b_1) hy2 (.n rfl) rfl rfl rfl (.t rfl) (.c (.t rfl) .n) ?_
 exact w ho⟩
instance i7 {p_0 p_1 p_2 p_3 p_4 p_5} : FI ktab 7 (g_depot_Home p_0 p_1 p_2 p_3 p_4 p_5) [.val (rSlice rTask) p_0, .val rYard p_1, .val (rSlice (rSlice (rInt .i64))) p_2, .val (rSlice (rInt .i64)) p_3, .val (rSlice (rInt .i64)) p_4, vI p_5] (fun out => [.row rStableCar (out.1), .row rStableLeave (out.2.1), .row (rInt .i64) (out.2.2.1), .row (rInt .i64) (out.2.2.2.1), .val (rInt .i64) (out.2.2.2.2)]) := ⟨fun out ho => by
 delta g_depot_Home at ho
 refine fn fun _ _ => ?_
 refine run 6 ?_
 refine s_st (st_nilrow rStableCar) ?_
 refine s_assign (.n rfl) rfl rfl .nilr ?_
 refine s_st (st_nilrow rStableLeave) ?_
 refine s_assign (.n rfl) rfl rfl .nilr ?_
 refine s_st (st_nilrow (rInt .i64)) ?_
 refine s_assign (.n rfl) rfl rfl .nilr ?_
 refine s_st (st_nilrow (rInt .i64)) ?_
 refine s_assign (.n rfl) rfl rfl .nilr ?_
 refine run 9 ?_
 refine xcl ho ?_
 intro y1 hy1 ho v2
 show SOps ..
 refine run 7 ?_
 obtain ⟨c7, hc7, ho⟩ := bnd ho
 refine wcx c7 [3, 4, 6, 8, 11] (fun t => (.normal, fun _ => ([(58, vB (t))], [(v2, .row (rInt .i64) (y1.1)), (.nilslice, .row (rInt .i64) ([])), (.nilslice, .row (rInt .i64) ([])), (.nilslice, .row rStableLeave ([])), (.nilslice, .row rStableCar ([]))]))) SEL ?_ fun _ => ?_
 ·have ho := hc7
  refine run 4 ?_
  refine wbr ho (fun hb8 ho => ?_) fun hb8 ho => ?_
  ·refine run 18 ?_
   cases ho; exact s_nil (lf [] [0, 1, 2, 3, 4])
  ·refine run 7 ?_
   refine wbr ho (fun hb9 ho => ?_) fun hb9 ho => ?_
   ·refine run 11 ?_
    cases ho; exact s_nil (lf [] [0, 1, 2, 3, 4])
   ·refine run 7 ?_
    refine wbr ho (fun hb10 ho => ?_) fun hb10 ho => ?_
    ·refine run 4 ?_
     cases ho; exact s_nil (lf [] [0, 1, 2, 3, 4])
    ·refine run 1 ?_
     refine xcl ho ?_
     intro y11 hy11 ho
     show SOps ..
     refine run 2 ?_
     cases ho; exact s_nil (lf [] [0, 1, 2, 3, 4])
 ·show SRun ..
  refine wct ho (fun hq12 ho => ?_) fun hq12 ho => ?_
  ·refine run 2 ?_
   refine s_st (st_nilrow rStableCar) ?_
   refine s_assign (.n rfl) rfl rfl .nilr ?_
   refine s_st (st_nilrow rStableLeave) ?_
   refine s_assign (.n rfl) rfl rfl .nilr ?_
   refine s_st (st_nilrow (rInt .i64)) ?_
   refine s_assign (.n rfl) rfl rfl .nilr ?_
   refine s_st (st_nilrow (rInt .i64)) ?_
   refine s_assign (.n rfl) rfl rfl .nilr ?_
   refine run 2 ?_
   cases ho; exact r_ret (ret_of (.inr rfl) (.r 3 rfl rfl (.r 2 rfl rfl (.r 1 rfl rfl (.r 0 rfl rfl (.v rfl .n))))) (by decide))
  ·refine run 9 ?_
   obtain ⟨t41, ht41, ho⟩ := bnd ho
   refine wlp ht41 [3, 4, 6, 8, 11, 60] (fun s g => ([(61, vI (s))], [])) (altX (fun b => (.exit 0, fun g => ([], []))) (fun b => (.ret, fun g => ([(12, .raw ((gh g 0))), (13, .raw ((gh g 1))), (14, .raw ((gh g 2))), (15, .raw ((gh g 3))), (16, vI (b.2.2.2.2))], [((gh g 0), .row rStableCar (b.1)), ((gh g 1), .row rStableLeave (b.2.1)), ((gh g 2), .row (rInt .i64) (b.2.2.1)), ((gh g 3), .row (rInt .i64) (b.2.2.2.1))])))) [] SEL (pk []) NE (fun s26 g27 _ ho => ?_) fun g42 => ?_
   ·refine run 5 ?_
    refine wct ho (fun hq28 ho => ?_) fun hq28 ho => ?_
    ·refine run 12 ?_
     obtain ⟨x34, hx34, ho⟩ := bnd ho
     refine run 2 ?_
     refine xcl ho ?_
     intro y35 hy35 ho
     show SOps ..
     refine run 2 ?_
     refine wbr ho (fun hb36 ho => ?_) fun hb36 ho => ?_
     ·refine run 8 ?_
      refine r_cond (.t rfl) (fun _ => ?_) (fun hq => by cases hq)
      refine run 2 ?_
      refine s_st (st_nilrow rStableCar) ?_
      refine s_assign (.n rfl) rfl rfl .nilr ?_
      refine s_st (st_nilrow rStableLeave) ?_
      refine s_assign (.n rfl) rfl rfl .nilr ?_
      refine s_st (st_nilrow (rInt .i64)) ?_
      refine s_assign (.n rfl) rfl rfl .nilr ?_
      refine s_st (st_nilrow (rInt .i64)) ?_
      refine s_assign (.n rfl) rfl rfl .nilr ?_
      refine run 2 ?_
      cases ho; exact r_ret (lf [.nilslice, .nilslice, .nilslice, .nilslice] [3, 2, 1, 0])
     ·refine run 2 ?_
      obtain ⟨x38, hx38, ho⟩ := bnd ho
      refine run 2 ?_
      refine xcl ho ?_
      intro y39 hy39 ho
      show SOps ..
      refine run 3 ?_
      refine wct ho (fun hq40 ho => ?_) fun hq40 ho => ?_
      ·refine run 2 ?_
       refine s_st (st_nilrow rStableCar) ?_
       refine s_assign (.n rfl) rfl rfl .nilr ?_
       refine s_st (st_nilrow rStableLeave) ?_
       refine s_assign (.n rfl) rfl rfl .nilr ?_
       refine s_st (st_nilrow (rInt .i64)) ?_
       refine s_assign (.n rfl) rfl rfl .nilr ?_
       refine s_st (st_nilrow (rInt .i64)) ?_
       refine s_assign (.n rfl) rfl rfl .nilr ?_
       refine run 2 ?_
       cases ho; exact r_ret (lf [.nilslice, .nilslice, .nilslice, .nilslice] [3, 2, 1, 0])
      ·exact w ho
    ·cases ho; exact r_exit (lf [] [])
   ·rcases t41 with b43 | b44
    ·have ho := alt_l ho
     show SRun ..
     refine run 7 ?_
     refine wct ho (fun hq45 ho => ?_) fun hq45 ho => ?_
     ·refine run 2 ?_
      refine s_st (st_nilrow rStableCar) ?_
      refine s_assign (.n rfl) rfl rfl .nilr ?_
      refine s_st (st_nilrow rStableLeave) ?_
      refine s_assign (.n rfl) rfl rfl .nilr ?_
      refine s_st (st_nilrow (rInt .i64)) ?_
      refine s_assign (.n rfl) rfl rfl .nilr ?_
      refine s_st (st_nilrow (rInt .i64)) ?_
      refine s_assign (.n rfl) rfl rfl .nilr ?_
      refine run 2 ?_
      cases ho; exact r_ret (ret_of (.inr rfl) (.r 3 rfl rfl (.r 2 rfl rfl (.r 1 rfl rfl (.r 0 rfl rfl (.v rfl .n))))) (by decide))
     ·refine run 3 ?_
      refine s_mkfn (X := (Int)) (Y := (Int)) (fun x => [.val (rInt .i64) (x)]) (fun y => [.val (rInt .i64) (y)]) (f := (fun x => g_depot_Home_1 x p_0 p_2)) (fun x y hf => i19.ok _ hf) rfl (.n rfl) rfl rfl .n (.c (.t rfl) (.c (.t rfl) .n)) ?_
      refine xal (zv := .nilfunc) (es := [.raw (.nilfunc)]) (by kernel_rfl) fun b46 => ?_
      refine run 1 ?_
      refine s_st (st_freezeb (R := (rFn ktab (Int) (Int) (fun x => [.val (rInt .i64) (x)]) (fun y => [.val (rInt .i64) (y)]))) (a := (fun x => g_depot_Home_1 x p_0 p_2)) 0 [20] (cells_one rfl) rfl rfl ⟨rfl, trivial⟩) ?_
      refine run 3 ?_
      refine s_mkfn (X := (Int)) (Y := (Int)) (fun x => [.val (rInt .i64) (x)]) (fun y => [.val (rInt .i64) (y)]) (f := (fun x => g_depot_Home_2 x p_0 p_2 p_5)) (fun x y hf => i20.ok _ hf) rfl (.n rfl) rfl rfl .n (.c (.t rfl) (.c (.t rfl) (.c (.t rfl) .n))) ?_
      refine xal (zv := .nilfunc) (es := [.raw (.nilfunc)]) (by kernel_rfl) fun b47 => ?_
      refine run 1 ?_
      refine s_st (st_freezeb (R := (rFn ktab (Int) (Int) (fun x => [.val (rInt .i64) (x)]) (fun y => [.val (rInt .i64) (y)]))) (a := (fun x => g_depot_Home_2 x p_0 p_2 p_5)) 0 [21] (cells_one rfl) rfl rfl ⟨rfl, trivial⟩) ?_
      refine run 3 ?_
      refine s_st (st_nilrow (rInt .i64)) ?_
      refine s_assign (.n rfl) rfl rfl .nilr ?_
      refine s_st (st_nilrow (rInt .i64)) ?_
      refine s_assign (.n rfl) rfl rfl .nilr ?_
      refine run 9 ?_
      obtain ⟨t60, ht60, ho⟩ := bnd ho
      refine wlp ht60 [3, 4, 8, 20, 21, 85] (fun s g => ([(22, .raw ((gh g 0))), (23, .raw ((gh g 1))), (86, vI (s.2.2))], [((gh g 0), .row (rInt .i64) (s.1)), ((gh g 1), .row (rInt .i64) (s.2.1))])) (fun b => (.exit 2, fun g => ([(22, .raw ((gh g 0))), (23, .raw ((gh g 1)))], [((gh g 0), .row (rInt .i64) (b.1)), ((gh g 1), .row (rInt .i64) (b.2))]))) [.nilslice, .nilslice] SEL (pk [1, 0]) NE (fun s53 g54 _ ho => ?_) fun g61 => ?_
      ·refine run 5 ?_
       refine wct ho (fun hq55 ho => ?_) fun hq55 ho => ?_
       ·refine run 12 ?_
        obtain ⟨x56, hx56, ho⟩ := bnd ho
        refine xap fun v57 => ?_
        refine run 3 ?_
        obtain ⟨x58, hx58, ho⟩ := bnd ho
        refine xap fun v59 => ?_
        refine run 6 ?_
        cases ho; exact s_nil (lf [v57, v59] [1, 0])
       ·cases ho; exact r_exit (lf [(gh g54 0), (gh g54 1)] [0, 1])
      ·show SRun ..
       refine run 3 ?_
       refine s_mkfn (X := (Int × Int)) (Y := (Int)) (fun x => [.val (rInt .i64) (x.1), .val (rInt .i64) (x.2)]) (fun y => [.val (rInt .i64) (y)]) (f := (fun x => g_depot_Home_3 x.1 x.2 ((fun x => g_depot_Home_1 x p_0 p_2)))) (fun x y hf => i22.ok _ hf) rfl (.n rfl) rfl rfl .n (.c (.t rfl) .n) ?_
       obtain ⟨y62, hy62, ho⟩ := bnd ho
       refine s_callmd [0] [1] (fun _ h => by cases h) (g_slices_SortStableFunc_int_int_ok hy62 ((gh g61 0))) rfl rfl (by decide) rfl (.n rfl) rfl rfl rfl .f (.c (.t rfl) (.c (.t rfl) .n)) ?_
       intro g63
       show SOps ..
       refine run 4 ?_
       refine s_mkfn (X := (Int × Int)) (Y := (Int)) (fun x => [.val (rInt .i64) (x.1), .val (rInt .i64) (x.2)]) (fun y => [.val (rInt .i64) (y)]) (f := (fun x => g_depot_Home_4 x.1 x.2 ((fun x => g_depot_Home_2 x p_0 p_2 p_5)))) (fun x y hf => i23.ok _ hf) rfl (.n rfl) rfl rfl .n (.c (.t rfl) .n) ?_
       obtain ⟨y64, hy64, ho⟩ := bnd ho
       refine s_callmd [1] [0] (fun _ h => by cases h) (g_slices_SortStableFunc_int_int_ok hy64 ((gh g61 1))) rfl rfl (by decide) rfl (.n rfl) rfl rfl rfl .f (.c (.t rfl) (.c (.t rfl) .n)) ?_
       intro g65
       show SOps ..
       refine run 3 ?_
       refine s_st (st_nilrow rStableCar) ?_
       refine s_assign (.n rfl) rfl rfl .nilr ?_
       refine run 3 ?_
       refine s_st (st_nilrow rStableLeave) ?_
       refine s_assign (.n rfl) rfl rfl .nilr ?_
       refine run 9 ?_
       obtain ⟨t96, ht96, ho⟩ := bnd ho
       refine wlp ht96 [3, 4, 20, 21, 22, 23, 105] (fun s g => ([(25, .raw ((gh g 0))), (26, .raw ((gh g 1))), (106, vI (s.2.2))], [((gh g61 1), .row (rInt .i64) (y64)), ((gh g61 0), .row (rInt .i64) (y62)), ((gh g 0), .row rStableCar (s.1)), ((gh g 1), .row rStableLeave (s.2.1))])) (altX (fun b => (.exit 4, fun g => ([(25, .raw ((gh g 0))), (26, .raw ((gh g 1)))], [((gh g61 1), .row (rInt .i64) (y64)), ((gh g61 0), .row (rInt .i64) (y62)), ((gh g 0), .row rStableCar (b.1)), ((gh g 1), .row rStableLeave (b.2))]))) (fun b => (.ret, fun g => ([(12, .raw ((gh g 0))), (13, .raw ((gh g 1))), (14, .raw ((gh g 2))), (15, .raw ((gh g 3))), (16, vI (b.2.2.2.2))], [((gh g 0), .row rStableCar (b.1)), ((gh g 1), .row rStableLeave (b.2.1)), ((gh g 2), .row (rInt .i64) (b.2.2.1)), ((gh g 3), .row (rInt .i64) (b.2.2.2.1))])))) [.nilslice, .nilslice] SEL (pk [2, 3, 1, 0]) NE (fun s80 g81 _ ho => ?_) fun g97 => ?_
       ·refine run 5 ?_
        refine wct ho (fun hq82 ho => ?_) fun hq82 ho => ?_
        ·refine run 9 ?_
         refine r_draw [3, 7] (by kernel_rfl) ?_
         refine run 2 ?_
         obtain ⟨x83, hx83, ho⟩ := bnd ho
         refine run 4 ?_
         obtain ⟨x84, hx84, ho⟩ := bnd ho
         refine run 10 ?_
         obtain ⟨y85, hy85, ho⟩ := bnd ho
         refine s_callv (X := (Int)) (Y := (Int)) (f := (fun x => g_depot_Home_2 x p_0 p_2 p_5)) (x := x84) hy85 (.n rfl) rfl rfl rfl (.t rfl) (.c (.t rfl) .n) ?_
         show SOps ..
         refine run 2 ?_
         refine wct ho (fun hq86 ho => ?_) fun hq86 ho => ?_
         ·refine run 2 ?_
          refine s_st (st_nilrow rStableCar) ?_
          refine s_assign (.n rfl) rfl rfl .nilr ?_
          refine s_st (st_nilrow rStableLeave) ?_
          refine s_assign (.n rfl) rfl rfl .nilr ?_
          refine s_st (st_nilrow (rInt .i64)) ?_
          refine s_assign (.n rfl) rfl rfl .nilr ?_
          refine s_st (st_nilrow (rInt .i64)) ?_
          refine s_assign (.n rfl) rfl rfl .nilr ?_
          refine run 2 ?_
          cases ho; exact r_ret (lf [.nilslice, .nilslice, .nilslice, .nilslice] [3, 2, 1, 0])
         ·refine run 6 ?_
          obtain ⟨x87, hx87, ho⟩ := bnd ho
          refine run 4 ?_
          obtain ⟨x88, hx88, ho⟩ := bnd ho
          refine run 4 ?_
          obtain ⟨y89, hy89, ho⟩ := bnd ho
          refine s_callv (X := (Int)) (Y := (Int)) (f := (fun x => g_depot_Home_1 x p_0 p_2)) (x := x83) hy89 (.n rfl) rfl rfl rfl (.t rfl) (.c (.t rfl) .n) ?_
          show SOps ..
          refine run 2 ?_
          obtain ⟨x90, hx90, ho⟩ := bnd ho
          refine xap fun v91 => ?_
          refine run 6 ?_
          obtain ⟨x92, hx92, ho⟩ := bnd ho
          refine run 4 ?_
          obtain ⟨y93, hy93, ho⟩ := bnd ho
          refine s_callv (X := (Int)) (Y := (Int)) (f := (fun x => g_depot_Home_2 x p_0 p_2 p_5)) (x := x84) hy93 (.n rfl) rfl rfl rfl (.t rfl) (.c (.t rfl) .n) ?_
          show SOps ..
          refine run 2 ?_
          obtain ⟨x94, hx94, ho⟩ := bnd ho
          refine xap fun v95 => ?_
          refine run 5 ?_
          cases ho; exact s_nil (lf [v91, v95] [2, 3, 1, 0])
        ·cases ho; exact r_exit (lf [(gh g81 0), (gh g81 1)] [0, 1, 2, 3])
       ·rcases t96 with b98 | b99
        ·have ho := alt_l ho
         show SRun ..
         refine run 12 ?_
         cases ho; exact r_ret (ret_of (.inr rfl) (.r 2 rfl rfl (.r 3 rfl rfl (.r 1 rfl rfl (.r 0 rfl rfl (.v rfl .n))))) (by decide))
        ·have ho := alt_r ho
         cases ho; exact id (ret_of (.inr rfl) (.r 0 rfl rfl (.r 1 rfl rfl (.r 2 rfl rfl (.r 3 rfl rfl (.v rfl .n))))) (by decide))
    ·have ho := alt_r ho
     cases ho; exact id (ret_of (.inr rfl) (.r 0 rfl rfl (.r 1 rfl rfl (.r 2 rfl rfl (.r 3 rfl rfl (.v rfl .n))))) (by decide))⟩
instance i27 {x_0 low_1 high_2} : FI ktab 27 (g_ref08_in x_0 low_1 high_2) [vI x_0, vI low_1, vI high_2] (fun out => [.val rBool (out)]) := ⟨fun out ho => by
 delta g_ref08_in at ho
 refine fn fun _ _ => ?_
 refine run 5 ?_
 obtain ⟨c2, hc2, ho⟩ := bnd ho
 refine wcx c2 [] (fun t => (.normal, fun _ => ([(6, vB (t))], []))) SEL ?_ fun _ => ?_
 ·exact w hc2
 ·show SRun ..
  cases ho; exact r_ret (ret_of (.inr rfl) (.v rfl .n) (by decide))⟩
instance i11 {p_0 p_1} : FI ktab 11 (g_ref08_Fine p_0 p_1) [.val (rSlice rTask) p_0, .val rYard p_1] (fun out => [.val rBool (out)]) := ⟨fun out ho => by
 delta g_ref08_Fine at ho
 refine fn fun _ _ => ?_
 refine run 14 ?_
 obtain ⟨c6, hc6, ho⟩ := bnd ho
 refine wcx c6 [0, 3, 5] (fun t => (.normal, fun _ => ([(33, vB (t))], []))) SEL ?_ fun _ => ?_
 ·exact w hc6
 ·show SRun ..
  refine wct ho (fun hq12 ho => ?_) fun hq12 ho => ?_
  ·exact w ho
  ·refine run 7 ?_
   obtain ⟨t69, ht69, ho⟩ := bnd ho
   refine wlp ht69 [] (fun s g => ([(0, .val (rSlice rTask) (p_0)), (3, .val (rPtr rYard) (p_1)), (5, vI ((lenI p_1.2.2.1))), (6, vI (s))], [])) (altX (fun b => (.exit 0, fun g => ([(0, .val (rSlice rTask) (p_0)), (5, vI ((lenI p_1.2.2.1)))], []))) (fun b => (.ret, fun g => ([(4, vB (b))], [])))) [] SEL (pk []) NE (fun s40 g41 _ ho => ?_) fun g70 => ?_
   ·refine run 7 ?_
    refine wct ho (fun hq42 ho => ?_) fun hq42 ho => ?_
    ·refine run 9 ?_
     obtain ⟨x47, hx47, ho⟩ := bnd ho
     refine run 6 ?_
     refine wbr ho (fun hb48 ho => ?_) fun hb48 ho => ?_
     ·refine run 11 ?_
      refine r_cond (.t rfl) (fun _ => ?_) (fun hq => by cases hq)
      exact w ho
     ·refine run 3 ?_
      obtain ⟨x50, hx50, ho⟩ := bnd ho
      refine run 3 ?_
      obtain ⟨x51, hx51, ho⟩ := bnd ho
      refine run 5 ?_
      refine wct ho (fun hq52 ho => ?_) fun hq52 ho => ?_
      ·exact w ho
      ·refine run 6 ?_
       obtain ⟨t65, ht65, ho⟩ := bnd ho
       refine wlp ht65 [0, 3, 5, 6, 48, 49, 50, 51, 52, 53, 54, 55, 56] (fun s g => ([(7, vI (s))], [])) (altX (fun b => (.exit 2, fun g => ([], []))) (fun b => (.ret, fun g => ([(4, vB (b))], [])))) [] SEL (pk []) NE (fun s58 g59 _ ho => ?_) fun g66 => ?_
       ·exact w ho
       ·rcases t65 with b67 | b68
        ·have ho := alt_l ho
         show SRun ..
         exact w ho
        ·have ho := alt_r ho
         cases ho; exact id (lf [] [])
    ·cases ho; exact r_exit (lf [] [])
   ·rcases t69 with b71 | b72
    ·have ho := alt_l ho
     show SRun ..
     refine run 6 ?_
     obtain ⟨t131, ht131, ho⟩ := bnd ho
     refine wlp ht131 [0, 5] (fun s g => ([(8, vI (s))], [])) (altX (fun b => (.exit 4, fun g => ([], []))) (fun b => (.ret, fun g => ([(4, vB (b))], [])))) [] SEL (pk []) NE (fun s101 g102 _ ho => ?_) fun g132 => ?_
     ·refine run 8 ?_
      refine wct ho (fun hq103 ho => ?_) fun hq103 ho => ?_
      ·refine run 7 ?_
       obtain ⟨x104, hx104, ho⟩ := bnd ho
       refine run 2 ?_
       refine xal (zv := .agg [.int .i64 0, .int .i64 0, .int .i64 0, .int .i64 0]) (es := [vI (0), vI (0), vI (0), vI (0)]) (by kernel_rfl) fun b105 => ?_
       refine run 1 ?_
       refine s_st (st_freezeb (R := rTask) (a := x104) 0 [9] (cells_pair (cells_one rfl) (cells_pair (cells_one rfl) (cells_pair (cells_one rfl) (cells_pair (cells_one rfl) cells_unit rfl) rfl) rfl) rfl) rfl rfl ⟨rfl, trivial⟩) ?_
       refine run 7 ?_
       refine xcl ho ?_
       intro y115 hy115 ho
       show SOps ..
       refine run 2 ?_
       refine wbr ho (fun hb116 ho => ?_) fun hb116 ho => ?_
       ·refine run 40 ?_
        refine r_cond (.t rfl) (fun _ => ?_) (fun hq => by cases hq)
        exact w ho
       ·refine run 4 ?_
        refine xcl ho ?_
        intro y118 hy118 ho
        show SOps ..
        refine run 3 ?_
        refine wbr ho (fun hb119 ho => ?_) fun hb119 ho => ?_
        ·refine run 32 ?_
         refine r_cond (.t rfl) (fun _ => ?_) (fun hq => by cases hq)
         exact w ho
        ·refine run 5 ?_
         refine wbr ho (fun hb121 ho => ?_) fun hb121 ho => ?_
         ·refine run 27 ?_
          refine r_cond (.t rfl) (fun _ => ?_) (fun hq => by cases hq)
          exact w ho
         ·refine run 7 ?_
          refine wbr ho (fun hb123 ho => ?_) fun hb123 ho => ?_
          ·refine run 20 ?_
           refine r_cond (.t rfl) (fun _ => ?_) (fun hq => by cases hq)
           exact w ho
          ·refine run 5 ?_
           refine wbr ho (fun hb125 ho => ?_) fun hb125 ho => ?_
           ·refine run 15 ?_
            refine r_cond (.t rfl) (fun _ => ?_) (fun hq => by cases hq)
            exact w ho
           ·refine run 3 ?_
            refine wbr ho (fun hb127 ho => ?_) fun hb127 ho => ?_
            ·exact w ho
            ·refine run 12 ?_
             refine r_cond (.t rfl) (fun hq => by cases hq) (fun _ => ?_)
             exact w ho
      ·cases ho; exact r_exit (lf [] [])
     ·rcases t131 with b133 | b134
      ·have ho := alt_l ho
       show SRun ..
       exact w ho
      ·have ho := alt_r ho
       cases ho; exact id (ret_of (.inr rfl) (.v rfl .n) (by decide))
    ·have ho := alt_r ho
     cases ho; exact id (ret_of (.inr rfl) (.v rfl .n) (by decide))⟩
instance i56 {tasks_0 y_1 a_2 b_3} : FI ktab 56 (g_ref08_Follows tasks_0 y_1 a_2 b_3) [.val (rSlice rTask) tasks_0, .val rYard y_1, vI a_2, vI b_3] (fun out => [.val rBool (out)]) := ⟨fun out ho => by
 delta g_ref08_Follows at ho
 refine fn fun _ _ => ?_
 refine run 11 ?_
 obtain ⟨x1, hx1, ho⟩ := bnd ho
 refine run 3 ?_
 obtain ⟨x2, hx2, ho⟩ := bnd ho
 refine run 4 ?_
 obtain ⟨x3, hx3, ho⟩ := bnd ho
 refine run 3 ?_
 obtain ⟨x4, hx4, ho⟩ := bnd ho
 refine run 5 ?_
 obtain ⟨c9, hc9, ho⟩ := bnd ho
 refine wcx c9 [] (fun t => (.normal, fun _ => ([(8, vB (t))], []))) SEL ?_ fun _ => ?_
 ·exact w hc9
 ·show SRun ..
  cases ho; exact r_ret (ret_of (.inr rfl) (.v rfl .n) (by decide))⟩
instance i24 {p_0 p_1 p_2} : FI ktab 24 (g_ref08_Plan p_0 p_1 p_2) [.val (rSlice rTask) p_0, .val rYard p_1, .val (rSlice (rSlice (rInt .i64))) p_2] (fun out => [.val rBool (out)]) := ⟨fun out ho => by
 delta g_ref08_Plan at ho
 refine fn fun _ _ => ?_
 refine run 9 ?_
 obtain ⟨x1, hx1, ho⟩ := bnd ho
 refine xmk fun v2 => ?_
 refine run 12 ?_
 obtain ⟨t302, ht302, ho⟩ := bnd ho
 refine wlp ht302 [] (fun s g => ([(0, .val (rSlice rTask) (p_0)), (2, .val (rSlice (rSlice (rInt .i64))) (p_2)), (4, .val (rPtr rYard) (p_1)), (7, .raw v2), (8, vI (s.1)), (9, vI (s.2.1))], [(v2, .row rBool (s.2.2))])) (altX (fun b => (.exit 0, fun g => ([(0, .val (rSlice rTask) (p_0)), (8, vI (b.1))], []))) (fun b => (.ret, fun g => ([(6, vB (b))], [])))) [] SEL (pk [0]) NE (fun s201 g202 _ ho => ?_) fun g303 => ?_
 ·refine run 8 ?_
  refine wct ho (fun hq203 ho => ?_) fun hq203 ho => ?_
  ·refine run 8 ?_
   obtain ⟨x204, hx204, ho⟩ := bnd ho
   refine run 5 ?_
   refine wct ho (fun hq205 ho => ?_) fun hq205 ho => ?_
   ·exact w ho
   ·refine run 7 ?_
    obtain ⟨t286, ht286, ho⟩ := bnd ho
    refine wlp ht286 [0, 2, 4, 7, 9] (fun s g => ([(8, vI (s.1)), (10, vI (s.2.1))], [(v2, .row rBool (s.2.2))])) (altX (fun b => (.exit 2, fun g => ([(8, vI (b.1))], [(v2, .row rBool (b.2))]))) (fun b => (.ret, fun g => ([(6, vB (b.1))], [])))) [] SEL (pk [0]) NE (fun s258 g259 _ ho => ?_) fun g287 => ?_
    ·refine run 6 ?_
     obtain ⟨x260, hx260, ho⟩ := bnd ho
     refine run 5 ?_
     refine wct ho (fun hq261 ho => ?_) fun hq261 ho => ?_
     ·refine run 7 ?_
      obtain ⟨x262, hx262, ho⟩ := bnd ho
      refine run 3 ?_
      obtain ⟨x263, hx263, ho⟩ := bnd ho
      refine run 6 ?_
      refine r_draw [10] (by kernel_rfl) ?_
      refine run 4 ?_
      refine xcl ho ?_
      intro y272 hy272 ho
      show SOps ..
      refine run 2 ?_
      refine wbr ho (fun hb273 ho => ?_) fun hb273 ho => ?_
      ·refine run 25 ?_
       refine r_cond (.t rfl) (fun _ => ?_) (fun hq => by cases hq)
       exact w ho
      ·refine run 2 ?_
       obtain ⟨x275, hx275, ho⟩ := bnd ho
       refine run 4 ?_
       refine wbr ho (fun hb276 ho => ?_) fun hb276 ho => ?_
       ·refine run 19 ?_
        refine r_cond (.t rfl) (fun _ => ?_) (fun hq => by cases hq)
        exact w ho
       ·refine run 3 ?_
        refine wbr ho (fun hb278 ho => ?_) fun hb278 ho => ?_
        ·refine run 4 ?_
         obtain ⟨x279, hx279, ho⟩ := bnd ho
         refine run 4 ?_
         obtain ⟨x280, hx280, ho⟩ := bnd ho
         refine run 3 ?_
         refine xcl ho ?_
         intro y281 hy281 ho
         show SOps ..
         refine run 4 ?_
         refine wct ho (fun hq282 ho => ?_) fun hq282 ho => ?_
         ·exact w ho
         ·refine run 5 ?_
          obtain ⟨x283, hx283, ho⟩ := bnd ho
          refine run 12 ?_
          cases ho; exact s_nil (lf [] [0])
        ·refine run 16 ?_
         refine r_cond (.t rfl) (fun hq => by cases hq) (fun _ => ?_)
         refine run 5 ?_
         obtain ⟨x285, hx285, ho⟩ := bnd ho
         refine run 12 ?_
         cases ho; exact s_nil (lf [] [0])
     ·cases ho; exact r_exit (lf [] [0])
    ·rcases t286 with b288 | b289
     ·have ho := alt_l ho
      show SRun ..
      refine run 5 ?_
      refine wbr ho (fun hb295 ho => ?_) fun hb295 ho => ?_
      ·refine run 2 ?_
       obtain ⟨x296, hx296, ho⟩ := bnd ho
       refine run 2 ?_
       obtain ⟨x297, hx297, ho⟩ := bnd ho
       refine run 5 ?_
       obtain ⟨x298, hx298, ho⟩ := bnd ho
       refine run 2 ?_
       obtain ⟨x299, hx299, ho⟩ := bnd ho
       refine run 5 ?_
       refine wct ho (fun hq300 ho => ?_) fun hq300 ho => ?_
       ·exact w ho
       ·refine run 5 ?_
        cases ho; exact s_nil (lf [] [0])
      ·refine run 16 ?_
       refine r_cond (.t rfl) (fun hq => by cases hq) (fun _ => ?_)
       refine run 5 ?_
       cases ho; exact s_nil (lf [] [0])
     ·have ho := alt_r ho
      cases ho; exact id (lf [] [])
  ·cases ho; exact r_exit (lf [] [])
 ·rcases t302 with b304 | b305
  ·have ho := alt_l ho
   show SRun ..
   exact w ho
  ·have ho := alt_r ho
   cases ho; exact id (ret_of (.inr rfl) (.v rfl .n) (by decide))⟩
instance i25 {x_0 low_1 high_2} : FI ktab 25 (g_ref09_in x_0 low_1 high_2) [vI x_0, vI low_1, vI high_2] (fun out => [.val rBool (out)]) := ⟨fun out ho => by
 delta g_ref09_in at ho
 refine fn fun _ _ => ?_
 refine run 5 ?_
 obtain ⟨c2, hc2, ho⟩ := bnd ho
 refine wcx c2 [] (fun t => (.normal, fun _ => ([(6, vB (t))], []))) SEL ?_ fun _ => ?_
 ·exact w hc2
 ·show SRun ..
  cases ho; exact r_ret (ret_of (.inr rfl) (.v rfl .n) (by decide))⟩
instance i8 {tasks_0 y_1 cars_2 kinds_3 lengths_4 day_5} : FI ktab 8 (g_ref09_Homes tasks_0 y_1 cars_2 kinds_3 lengths_4 day_5) [.val (rSlice rTask) tasks_0, .val rYard y_1, .val (rSlice (rSlice (rInt .i64))) cars_2, .val (rSlice (rInt .i64)) kinds_3, .val (rSlice (rInt .i64)) lengths_4, vI day_5] (fun out => [.val rBool (out)]) := ⟨fun out ho => by
 delta g_ref09_Homes at ho
 refine fn fun _ _ => ?_
 refine run 7 ?_
 obtain ⟨c8, hc8, ho⟩ := bnd ho
 refine wcx c8 [2, 3, 4] (fun t => (.normal, fun _ => ([(43, vB (t))], []))) SEL ?_ fun _ => ?_
 ·exact w hc8
 ·show SRun ..
  refine wct ho (fun hq16 ho => ?_) fun hq16 ho => ?_
  ·exact w ho
  ·refine run 7 ?_
   obtain ⟨t45, ht45, ho⟩ := bnd ho
   refine wlp ht45 [2, 3, 4] (fun s g => ([(13, vI (s))], [])) (altX (fun b => (.exit 0, fun g => ([], []))) (fun b => (.ret, fun g => ([(12, vB (b))], [])))) [] SEL (pk []) NE (fun s30 g31 _ ho => ?_) fun g46 => ?_
   ·refine run 8 ?_
    refine wct ho (fun hq32 ho => ?_) fun hq32 ho => ?_
    ·refine run 7 ?_
     obtain ⟨x38, hx38, ho⟩ := bnd ho
     refine run 2 ?_
     refine xcl ho ?_
     intro y39 hy39 ho
     show SOps ..
     refine run 2 ?_
     refine wbr ho (fun hb40 ho => ?_) fun hb40 ho => ?_
     ·refine run 8 ?_
      refine r_cond (.t rfl) (fun _ => ?_) (fun hq => by cases hq)
      exact w ho
     ·exact w ho
    ·cases ho; exact r_exit (lf [] [])
   ·rcases t45 with b47 | b48
    ·have ho := alt_l ho
     show SRun ..
     exact w ho
    ·have ho := alt_r ho
     cases ho; exact id (ret_of (.inr rfl) (.v rfl .n) (by decide))⟩
instance i26 {l_0} : FI ktab 26 (g_ref09_sorted l_0) [.val (rSlice (rInt .i64)) l_0] (fun out => [.row (rInt .i64) (out)]) := ⟨fun out ho => by
 delta g_ref09_sorted at ho
 refine fn fun _ _ => ?_
 refine run 2 ?_
 refine s_st (st_nilrow (rInt .i64)) ?_
 refine s_assign (.n rfl) rfl rfl .nilr ?_
 refine run 3 ?_
 refine s_st (st_nilrow (rInt .i64)) ?_
 refine s_assign (.n rfl) rfl rfl .nilr ?_
 refine run 7 ?_
 obtain ⟨t69, ht69, ho⟩ := bnd ho
 refine wlp ht69 [0] (fun s g => ([(3, .raw ((gh g 0))), (4, vI (s.2))], [((gh g 0), .row (rInt .i64) (s.1))])) (fun b => (.exit 0, fun g => ([(3, .raw ((gh g 0)))], [((gh g 0), .row (rInt .i64) (b))]))) [.nilslice] SEL (pk [0]) NE (fun s34 g35 _ ho => ?_) fun g70 => ?_
 ·refine run 8 ?_
  refine wct ho (fun hq36 ho => ?_) fun hq36 ho => ?_
  ·refine run 9 ?_
   obtain ⟨t59, ht59, ho⟩ := bnd ho
   refine wlp ht59 [0, 3, 4] (fun s g => ([(5, vI (s))], [((gh g35 0), .row (rInt .i64) (s34.1))])) (fun b => (.exit 2, fun g => ([(5, vI (b))], [((gh g35 0), .row (rInt .i64) (s34.1))]))) [] SEL (pk [0]) NE (fun s47 g48 _ ho => ?_) fun g60 => ?_
   ·refine run 2 ?_
    refine r_draw [9] (by kernel_rfl) ?_
    refine run 5 ?_
    refine wbr ho (fun hb53 ho => ?_) fun hb53 ho => ?_
    ·refine run 3 ?_
     obtain ⟨x54, hx54, ho⟩ := bnd ho
     refine run 2 ?_
     obtain ⟨x55, hx55, ho⟩ := bnd ho
     refine run 4 ?_
     obtain ⟨x56, hx56, ho⟩ := bnd ho
     refine run 5 ?_
     refine wct ho (fun hq57 ho => ?_) fun hq57 ho => ?_
     ·refine run 6 ?_
      cases ho; exact s_nil (lf [] [0])
     ·cases ho; exact r_exit (lf [] [0])
    ·refine run 14 ?_
     refine r_cond (.t rfl) (fun hq => by cases hq) (fun _ => ?_)
     cases ho; exact r_exit (lf [] [0])
   ·show SRun ..
    refine run 3 ?_
    refine s_st (st_freeze 0 [3, 32] rfl rfl ⟨rfl, rfl, trivial⟩) ?_
    obtain ⟨x61, hx61, ho⟩ := bnd ho
    refine run 1 ?_
    refine s_st (st_nilrow (rInt .i64)) ?_
    obtain ⟨x62, hx62, ho⟩ := bnd ho
    refine s_app 0 S27 Y3 hx62 (.n rfl) rfl rfl rfl rfl rfl .nilr rfl (.t rfl) rfl ?_
    intro v63
    refine run 2 ?_
    obtain ⟨x64, hx64, ho⟩ := bnd ho
    refine xap fun v65 => ?_
    refine run 2 ?_
    obtain ⟨x66, hx66, ho⟩ := bnd ho
    refine run 1 ?_
    obtain ⟨x67, hx67, ho⟩ := bnd ho
    refine xap fun v68 => ?_
    refine run 6 ?_
    cases ho; exact s_nil (lf [v68] [0])
  ·cases ho; exact r_exit (lf [(gh g35 0)] [0])
 ·show SRun ..
  exact w ho⟩
instance i9 {p_0 p_1 p_2 p_3 p_4} : FI ktab 9 (g_ref09_Home p_0 p_1 p_2 p_3 p_4) [.val (rSlice rTask) p_0, .val (rSlice (rSlice (rInt .i64))) p_1, .val (rSlice (rInt .i64)) p_2, .val (rSlice (rInt .i64)) p_3, vI p_4] (fun out => [.row rStableCar (out.1), .row rStableLeave (out.2.1), .row (rInt .i64) (out.2.2.1), .row (rInt .i64) (out.2.2.2.1), .val rBool (out.2.2.2.2)]) := ⟨fun out ho => by
 delta g_ref09_Home at ho
 refine fn fun _ _ => ?_
 refine run 2 ?_
 refine s_st (st_nilrow rStableCar) ?_
 refine s_assign (.n rfl) rfl rfl .nilr ?_
 refine s_st (st_nilrow rStableLeave) ?_
 refine s_assign (.n rfl) rfl rfl .nilr ?_
 refine s_st (st_nilrow (rInt .i64)) ?_
 refine s_assign (.n rfl) rfl rfl .nilr ?_
 refine s_st (st_nilrow (rInt .i64)) ?_
 refine s_assign (.n rfl) rfl rfl .nilr ?_
 refine run 4 ?_
 refine s_st (st_nilrow (rInt .i64)) ?_
 refine s_assign (.n rfl) rfl rfl .nilr ?_
 refine s_st (st_nilrow (rInt .i64)) ?_
 refine s_assign (.n rfl) rfl rfl .nilr ?_
 refine run 7 ?_
 obtain ⟨t31, ht31, ho⟩ := bnd ho
 refine wlp ht31 [0, 1, 2, 3, 4] (fun s g => ([(15, .raw ((gh g 0))), (16, .raw ((gh g 1))), (17, vI (s.2.2))], [((gh g 0), .row (rInt .i64) (s.1)), ((gh g 1), .row (rInt .i64) (s.2.1))])) (altX (fun b => (.exit 0, fun g => ([(15, .raw ((gh g 0))), (16, .raw ((gh g 1)))], [((gh g 0), .row (rInt .i64) (b.1)), ((gh g 1), .row (rInt .i64) (b.2))]))) (fun b => (.ret, fun g => ([(10, .raw ((gh g 0))), (11, .raw ((gh g 1))), (12, .raw ((gh g 2))), (13, .raw ((gh g 3))), (14, vB (b.2.2.2.2))], [((gh g 0), .row rStableCar (b.1)), ((gh g 1), .row rStableLeave (b.2.1)), ((gh g 2), .row (rInt .i64) (b.2.2.1)), ((gh g 3), .row (rInt .i64) (b.2.2.2.1))])))) [.nilslice, .nilslice] SEL (pk [1, 0]) NE (fun s15 g16 _ ho => ?_) fun g32 => ?_
 ·refine run 8 ?_
  refine wct ho (fun hq17 ho => ?_) fun hq17 ho => ?_
  ·refine run 9 ?_
   obtain ⟨x18, hx18, ho⟩ := bnd ho
   refine run 4 ?_
   obtain ⟨x19, hx19, ho⟩ := bnd ho
   refine run 4 ?_
   obtain ⟨x20, hx20, ho⟩ := bnd ho
   refine run 2 ?_
   obtain ⟨x21, hx21, ho⟩ := bnd ho
   refine run 4 ?_
   obtain ⟨x22, hx22, ho⟩ := bnd ho
   refine xap fun v23 => ?_
   refine run 8 ?_
   obtain ⟨x24, hx24, ho⟩ := bnd ho
   refine run 2 ?_
   obtain ⟨x25, hx25, ho⟩ := bnd ho
   refine run 2 ?_
   obtain ⟨x26, hx26, ho⟩ := bnd ho
   refine run 6 ?_
   obtain ⟨x27, hx27, ho⟩ := bnd ho
   refine xap fun v28 => ?_
   refine run 6 ?_
   obtain ⟨x29, hx29, ho⟩ := bnd ho
   refine run 4 ?_
   refine wct ho (fun hq30 ho => ?_) fun hq30 ho => ?_
   ·refine run 2 ?_
    refine s_st (st_nilrow rStableCar) ?_
    refine s_assign (.n rfl) rfl rfl .nilr ?_
    refine s_st (st_nilrow rStableLeave) ?_
    refine s_assign (.n rfl) rfl rfl .nilr ?_
    refine s_st (st_nilrow (rInt .i64)) ?_
    refine s_assign (.n rfl) rfl rfl .nilr ?_
    refine s_st (st_nilrow (rInt .i64)) ?_
    refine s_assign (.n rfl) rfl rfl .nilr ?_
    refine run 2 ?_
    cases ho; exact r_ret (lf [.nilslice, .nilslice, .nilslice, .nilslice] [3, 2, 1, 0])
   ·refine run 5 ?_
    cases ho; exact s_nil (lf [v23, v28] [1, 0])
  ·cases ho; exact r_exit (lf [(gh g16 0), (gh g16 1)] [0, 1])
 ·rcases t31 with b33 | b34
  ·have ho := alt_l ho
   show SRun ..
   refine run 7 ?_
   refine wct ho (fun hq35 ho => ?_) fun hq35 ho => ?_
   ·refine run 2 ?_
    refine s_st (st_nilrow rStableCar) ?_
    refine s_assign (.n rfl) rfl rfl .nilr ?_
    refine s_st (st_nilrow rStableLeave) ?_
    refine s_assign (.n rfl) rfl rfl .nilr ?_
    refine s_st (st_nilrow (rInt .i64)) ?_
    refine s_assign (.n rfl) rfl rfl .nilr ?_
    refine s_st (st_nilrow (rInt .i64)) ?_
    refine s_assign (.n rfl) rfl rfl .nilr ?_
    refine run 2 ?_
    cases ho; exact r_ret (ret_of (.inr rfl) (.r 3 rfl rfl (.r 2 rfl rfl (.r 1 rfl rfl (.r 0 rfl rfl (.v rfl .n))))) (by decide))
   ·refine run 4 ?_
    refine xcl ho ?_
    intro y36 hy36 ho v37
    show SOps ..
    refine run 1 ?_
    refine xcl ho ?_
    intro y38 hy38 ho v39
    show SOps ..
    refine run 5 ?_
    refine s_st (st_nilrow rStableCar) ?_
    refine s_assign (.n rfl) rfl rfl .nilr ?_
    refine run 3 ?_
    refine s_st (st_nilrow rStableLeave) ?_
    refine s_assign (.n rfl) rfl rfl .nilr ?_
    refine run 7 ?_
    obtain ⟨t72, ht72, ho⟩ := bnd ho
    refine wlp ht72 [1, 2, 3, 15, 16, 18, 19] (fun s g => ([(20, .raw ((gh g 0))), (21, .raw ((gh g 1))), (22, vI (s.2.2))], [(v39, .row (rInt .i64) (y38)), (v37, .row (rInt .i64) (y36)), ((gh g32 0), .row (rInt .i64) (b33.1)), ((gh g32 1), .row (rInt .i64) (b33.2)), ((gh g 0), .row rStableCar (s.1)), ((gh g 1), .row rStableLeave (s.2.1))])) (fun b => (.exit 2, fun g => ([(20, .raw ((gh g 0))), (21, .raw ((gh g 1)))], [(v39, .row (rInt .i64) (y38)), (v37, .row (rInt .i64) (y36)), ((gh g 0), .row rStableCar (b.1)), ((gh g 1), .row rStableLeave (b.2))]))) [.nilslice, .nilslice] SEL (pk [2, 3, 4, 5, 1, 0]) NE (fun s55 g56 _ ho => ?_) fun g73 => ?_
    ·refine run 8 ?_
     refine wct ho (fun hq57 ho => ?_) fun hq57 ho => ?_
     ·refine run 4 ?_
      refine r_draw [5, 12, 19, 21] (by kernel_rfl) ?_
      refine run 4 ?_
      obtain ⟨x58, hx58, ho⟩ := bnd ho
      refine run 2 ?_
      obtain ⟨x59, hx59, ho⟩ := bnd ho
      refine run 5 ?_
      obtain ⟨x60, hx60, ho⟩ := bnd ho
      refine run 2 ?_
      obtain ⟨x61, hx61, ho⟩ := bnd ho
      refine run 5 ?_
      obtain ⟨x62, hx62, ho⟩ := bnd ho
      refine run 2 ?_
      obtain ⟨x63, hx63, ho⟩ := bnd ho
      refine run 4 ?_
      obtain ⟨x64, hx64, ho⟩ := bnd ho
      refine xap fun v65 => ?_
      refine run 2 ?_
      refine r_draw [5, 12, 14] (by kernel_rfl) ?_
      refine run 4 ?_
      obtain ⟨x66, hx66, ho⟩ := bnd ho
      refine run 2 ?_
      obtain ⟨x67, hx67, ho⟩ := bnd ho
      refine run 5 ?_
      obtain ⟨x68, hx68, ho⟩ := bnd ho
      refine run 2 ?_
      obtain ⟨x69, hx69, ho⟩ := bnd ho
      refine run 4 ?_
      obtain ⟨x70, hx70, ho⟩ := bnd ho
      refine xap fun v71 => ?_
      refine run 6 ?_
      cases ho; exact s_nil (lf [v65, v71] [2, 3, 4, 5, 1, 0])
     ·cases ho; exact r_exit (lf [(gh g56 0), (gh g56 1)] [0, 1, 4, 5])
    ·show SRun ..
     refine run 12 ?_
     cases ho; exact r_ret (ret_of (.inr rfl) (.r 2 rfl rfl (.r 3 rfl rfl (.r 1 rfl rfl (.r 0 rfl rfl (.v rfl .n))))) (by decide))
  ·have ho := alt_r ho
   cases ho; exact id (ret_of (.inr rfl) (.r 0 rfl rfl (.r 1 rfl rfl (.r 2 rfl rfl (.r 3 rfl rfl (.v rfl .n))))) (by decide))⟩
instance i3 {p_0 p_1 p_2 p_3 p_4 p_5} : FI ktab 3 (g_law09_DepotHomes p_0 p_1 p_2 p_3 p_4 p_5) [.val (rSlice rTask) p_0, .val rYard p_1, .val (rSlice (rSlice (rInt .i64))) p_2, .val (rSlice (rInt .i64)) p_3, .val (rSlice (rInt .i64)) p_4, vI p_5] (fun out => [.val rBool (out)]) := ⟨fun out ho => by
 delta g_law09_DepotHomes at ho
 refine fn fun _ _ => ?_
 refine run 13 ?_
 refine xcl ho ?_
 intro y1 hy1 ho
 show SOps ..
 refine run 2 ?_
 refine wct ho (fun hq2 ho => ?_) fun hq2 ho => ?_
 ·refine run 2 ?_
  refine s_const (v := .bool true) (e := .val rBool true) rfl rfl known_te (.n rfl) rfl rfl rfl .f rfl ?_
  exact w ho
 ·refine run 9 ?_
  refine xcl ho ?_
  intro y3 hy3 ho v4 v5 v6 v7
  show SOps ..
  refine run 21 ?_
  refine xcl ho ?_
  intro y8 hy8 ho
  show SOps ..
  refine run 2 ?_
  refine wct ho (fun hq9 ho => ?_) fun hq9 ho => ?_
  ·refine run 1 ?_
   obtain ⟨c12, hc12, ho⟩ := bnd ho
   refine wcx c12 [] (fun t => (.normal, fun _ => ([(12, vB (t))], [(v4, .row rStableCar (y3.1)), (v5, .row rStableLeave (y3.2.1)), (v6, .row (rInt .i64) (y3.2.2.1)), (v7, .row (rInt .i64) (y3.2.2.2.1))]))) SEL ?_ fun _ => ?_
   ·have ho := hc12
    refine run 4 ?_
    refine wbr ho (fun hb13 ho => ?_) fun hb13 ho => ?_
    ·refine run 14 ?_
     refine wbr ho (fun hb14 ho => ?_) fun hb14 ho => ?_
     ·refine s_const (v := .bool true) (e := .val rBool true) rfl rfl known_te (.g rfl rfl (gt1 hb14)) rfl rfl rfl .f rfl ?_
      refine run 2 ?_
      cases ho; exact s_nil (lf [] [0, 1, 2, 3])
     ·refine run 3 ?_
      cases ho; exact s_nil (lf [] [0, 1, 2, 3])
    ·refine run 17 ?_
     cases ho; exact s_nil (lf [] [0, 1, 2, 3])
   ·show SRun ..
    cases ho; exact r_ret (ret_of (.inr rfl) (.v rfl .n) (by decide))
  ·refine run 8 ?_
   refine xcl ho ?_
   intro y15 hy15 ho v16 v17 v18 v19
   show SOps ..
   refine run 18 ?_
   refine wct ho (fun hq20 ho => ?_) fun hq20 ho => ?_
   ·refine run 1 ?_
    obtain ⟨c23, hc23, ho⟩ := bnd ho
    refine wcx c23 [] (fun t => (.normal, fun _ => ([(12, vB (t))], [(v16, .row rStableCar (y15.1)), (v17, .row rStableLeave (y15.2.1)), (v18, .row (rInt .i64) (y15.2.2.1)), (v19, .row (rInt .i64) (y15.2.2.2.1)), (v4, .row rStableCar (y3.1)), (v5, .row rStableLeave (y3.2.1)), (v6, .row (rInt .i64) (y3.2.2.1)), (v7, .row (rInt .i64) (y3.2.2.2.1))]))) SEL ?_ fun _ => ?_
    ·have ho := hc23
     refine run 4 ?_
     refine wbr ho (fun hb24 ho => ?_) fun hb24 ho => ?_
     ·refine run 14 ?_
      refine wbr ho (fun hb25 ho => ?_) fun hb25 ho => ?_
      ·refine s_const (v := .bool true) (e := .val rBool true) rfl rfl known_te (.g rfl rfl (gt1 hb25)) rfl rfl rfl .f rfl ?_
       refine run 2 ?_
       cases ho; exact s_nil (lf [] [0, 1, 2, 3, 4, 5, 6, 7])
      ·refine run 3 ?_
       cases ho; exact s_nil (lf [] [0, 1, 2, 3, 4, 5, 6, 7])
     ·refine run 17 ?_
      cases ho; exact s_nil (lf [] [0, 1, 2, 3, 4, 5, 6, 7])
    ·show SRun ..
     cases ho; exact r_ret (ret_of (.inr rfl) (.v rfl .n) (by decide))
   ·refine run 3 ?_
    obtain ⟨c32, hc32, ho⟩ := bnd ho
    refine wcx c32 [13, 14, 18, 19] (fun t => (.normal, fun _ => ([(132, vB (t))], [(v16, .row rStableCar (y15.1)), (v17, .row rStableLeave (y15.2.1)), (v18, .row (rInt .i64) (y15.2.2.1)), (v19, .row (rInt .i64) (y15.2.2.2.1)), (v4, .row rStableCar (y3.1)), (v5, .row rStableLeave (y3.2.1)), (v6, .row (rInt .i64) (y3.2.2.1)), (v7, .row (rInt .i64) (y3.2.2.2.1))]))) SEL ?_ fun _ => ?_
    ·have ho := hc32
     refine run 4 ?_
     refine wbr ho (fun hb33 ho => ?_) fun hb33 ho => ?_
     ·refine run 25 ?_
      cases ho; exact s_nil (lf [] [0, 1, 2, 3, 4, 5, 6, 7])
     ·refine run 7 ?_
      refine wbr ho (fun hb34 ho => ?_) fun hb34 ho => ?_
      ·refine run 18 ?_
       cases ho; exact s_nil (lf [] [0, 1, 2, 3, 4, 5, 6, 7])
      ·refine run 7 ?_
       refine wbr ho (fun hb35 ho => ?_) fun hb35 ho => ?_
       ·refine run 11 ?_
        cases ho; exact s_nil (lf [] [0, 1, 2, 3, 4, 5, 6, 7])
       ·refine run 2 ?_
        refine xcl ho ?_
        intro y36 hy36 ho
        show SOps ..
        refine run 3 ?_
        refine wbr ho (fun hb37 ho => ?_) fun hb37 ho => ?_
        ·refine run 5 ?_
         cases ho; exact s_nil (lf [] [0, 1, 2, 3, 4, 5, 6, 7])
        ·refine run 2 ?_
         refine xcl ho ?_
         intro y38 hy38 ho
         show SOps ..
         refine run 2 ?_
         cases ho; exact s_nil (lf [] [0, 1, 2, 3, 4, 5, 6, 7])
    ·show SRun ..
     refine wct ho (fun hq39 ho => ?_) fun hq39 ho => ?_
     ·exact w ho
     ·refine run 7 ?_
      obtain ⟨t68, ht68, ho⟩ := bnd ho
      refine wlp ht68 [13, 14, 18, 19] (fun s g => ([(23, vI (s))], [(v16, .row rStableCar (y15.1)), (v17, .row rStableLeave (y15.2.1)), (v4, .row rStableCar (y3.1)), (v5, .row rStableLeave (y3.2.1))])) (altX (fun b => (.exit 0, fun g => ([], []))) (fun b => (.ret, fun g => ([(12, vB (b))], [])))) [] SEL (pk [0, 1, 4, 5]) NE (fun s53 g54 _ ho => ?_) fun g69 => ?_
      ·refine run 8 ?_
       refine wct ho (fun hq55 ho => ?_) fun hq55 ho => ?_
       ·refine run 4 ?_
        refine r_draw [3, 7, 13, 17] (by kernel_rfl) ?_
        refine run 2 ?_
        obtain ⟨x61, hx61, ho⟩ := bnd ho
        refine run 4 ?_
        obtain ⟨x62, hx62, ho⟩ := bnd ho
        refine run 4 ?_
        refine wbr ho (fun hb63 ho => ?_) fun hb63 ho => ?_
        ·refine run 11 ?_
         refine r_cond (.t rfl) (fun _ => ?_) (fun hq => by cases hq)
         exact w ho
        ·refine run 2 ?_
         obtain ⟨x65, hx65, ho⟩ := bnd ho
         refine run 4 ?_
         obtain ⟨x66, hx66, ho⟩ := bnd ho
         refine run 5 ?_
         refine wct ho (fun hq67 ho => ?_) fun hq67 ho => ?_
         ·exact w ho
         ·refine run 5 ?_
          cases ho; exact s_nil (lf [] [0, 1, 2, 3])
       ·cases ho; exact r_exit (lf [] [])
      ·rcases t68 with b70 | b71
       ·have ho := alt_l ho
        show SRun ..
        refine run 2 ?_
        refine s_const (v := .bool true) (e := .val rBool true) rfl rfl known_te (.n rfl) rfl rfl rfl .f rfl ?_
        exact w ho
       ·have ho := alt_r ho
        cases ho; exact id (ret_of (.inr rfl) (.v rfl .n) (by decide))⟩
end Go.Ai.TabYtafbcffccnjgfaa
