/- Written by program: walks through functions. -/
import Derived.Test.YtcokdbcdlaofbaaGreatM18
set_option linter.unusedSimpArgs false
set_option linter.unusedVariables false
set_option linter.unusedSectionVars false
namespace Go.Ai.TabYtcokdbcdlaofbaaGreat
open Go Go.Ai Go.Ai.Sx Go.Proofs
attribute [local irreducible] SOps
set_option maxRecDepth 100000
set_option maxHeartbeats 4000000
instance i13 {t_0} : FI ktab 13 (g_law03_short t_0) [.val rTrain t_0] (fun out => [.val rBool (out)]) := ⟨fun out ho => by
 delta g_law03_short at ho
 refine fn fun _ _ => ?_
 exact w ho⟩
instance i39 {x_0 low_1 high_2} : FI ktab 39 (g_ref03_in x_0 low_1 high_2) [vI x_0, vI low_1, vI high_2] (fun out => [.val rBool (out)]) := ⟨fun out ho => by
 delta g_ref03_in at ho
 refine fn fun _ _ => ?_
 refine run 5 ?_
 obtain ⟨c2, hc2, ho⟩ := bnd ho
 refine wcx c2 [] (fun t => (.normal, fun _ => ([(6, vB (t))], []))) SEL ?_ fun _ => ?_
 ·exact w hc2
 ·show SRun ..
  cases ho; exact r_ret (ret_of (.inr rfl) (.v rfl .n) (by decide))⟩
instance i33 {p_0} : FI ktab 33 (g_ref03_Train p_0) [.val rTrain p_0] (fun out => [.val rBool (out)]) := ⟨fun out ho => by
 delta g_ref03_Train at ho
 refine fn fun _ _ => ?_
 refine run 7 ?_
 obtain ⟨c20, hc20, ho⟩ := bnd ho
 refine wcx c20 [1] (fun t => (.normal, fun _ => ([(62, vB (t))], []))) SEL ?_ fun _ => ?_
 ·exact w hc20
 ·show SRun ..
  refine wct ho (fun hq40 ho => ?_) fun hq40 ho => ?_
  ·exact w ho
  ·refine run 7 ?_
   obtain ⟨t51, ht51, ho⟩ := bnd ho
   refine wlp ht51 [1] (fun s g => ([(3, vI (s))], [])) (altX (fun b => (.exit 0, fun g => ([], []))) (fun b => (.ret, fun g => ([(2, vB (b))], [])))) [] SEL (pk []) NE (fun s45 g46 _ ho => ?_) fun g52 => ?_
   ·exact w ho
   ·rcases t51 with b53 | b54
    ·have ho := alt_l ho
     show SRun ..
     exact w ho
    ·have ho := alt_r ho
     cases ho; exact id (ret_of (.inr rfl) (.v rfl .n) (by decide))⟩
instance i38 {t_0 x_1} : FI ktab 38 (g_ref03_State t_0 x_1) [.val rTrain t_0, .val rMotionState x_1] (fun out => [.val rBool (out)]) := ⟨fun out ho => by
 delta g_ref03_State at ho
 refine fn fun _ _ => ?_
 refine run 7 ?_
 obtain ⟨c4, hc4, ho⟩ := bnd ho
 refine wcx c4 [] (fun t => (.normal, fun _ => ([(4, vB (t))], []))) SEL ?_ fun _ => ?_
 ·exact w hc4
 ·show SRun ..
  cases ho; exact r_ret (ret_of (.inr rfl) (.v rfl .n) (by decide))⟩
instance i14 {t_0 x_1 demand_2 slope_3 state_4} : FI ktab 14 (g_ref03_Fine t_0 x_1 demand_2 slope_3 state_4) [.val rTrain t_0, .val rMotionState x_1, vI demand_2, vI slope_3, vI state_4] (fun out => [.val rBool (out)]) := ⟨fun out ho => by
 delta g_ref03_Fine at ho
 refine fn fun _ _ => ?_
 refine run 7 ?_
 obtain ⟨c10, hc10, ho⟩ := bnd ho
 refine wcx c10 [] (fun t => (.normal, fun _ => ([(10, vB (t))], []))) SEL ?_ fun _ => ?_
 ·exact w hc10
 ·show SRun ..
  cases ho; exact r_ret (ret_of (.inr rfl) (.v rfl .n) (by decide))⟩
instance i54 {p_0 p_1 p_2 p_3 p_4} : FI ktab 54 (g_ref03_forces p_0 p_1 p_2 p_3 p_4) [.val rTrain p_0, vI p_1, vI p_2, vI p_3, vI p_4] (fun out => [.val (rInt .i64) (out.1), .val (rInt .i64) (out.2.1), .val (rInt .i64) (out.2.2.1), .val (rInt .i64) (out.2.2.2)]) := ⟨fun out ho => by
 delta g_ref03_forces at ho
 refine fn fun _ _ => ?_
 exact w ho⟩
instance i29 {p_0 p_1 p_2 p_3 p_4} : FI ktab 29 (g_ref03_Step p_0 p_1 p_2 p_3 p_4) [.val rTrain p_0, .val rMotionState p_1, vI p_2, vI p_3, vI p_4] (fun out => [.val rMotionState (out.1), .val rMotionLedger (out.2.1), .val rBool (out.2.2)]) := ⟨fun out ho => by
 delta g_ref03_Step at ho
 refine fn fun _ _ => ?_
 refine run 4 ?_
 refine xal (zv := .agg [.int .i64 0, .int .i64 0]) (es := [vI (0), vI (0)]) (by kernel_rfl) fun b1 => ?_
 refine xal (zv := .agg [.int .i64 0, .int .i64 0, .int .i64 0, .int .i64 0, .int .i64 0, .int .i64 0]) (es := [vI (0), vI (0), vI (0), vI (0), vI (0), vI (0)]) (by kernel_rfl) fun b2 => ?_
 refine run 9 ?_
 obtain ⟨x5, hx5, ho⟩ := bnd ho
 refine run 4 ?_
 refine xcl ho ?_
 intro y6 hy6 ho
 show SOps ..
 refine run 32 ?_
 refine xal (zv := .agg [.int .i64 0, .int .i64 0, .int .i64 0, .int .i64 0, .int .i64 0, .int .i64 0]) (es := [vI (0), vI (0), vI (0), vI (0), vI (0), vI (0)]) (by kernel_rfl) fun b7 => ?_
 refine run 3 ?_
 obtain ⟨c10, hc10, ho⟩ := bnd ho
 refine wcx c10 [5, 6, 10, 11, 13, 14, 15, 16, 17, 18, 19] (fun t => (.normal, fun _ => ([(57, vB (t))], [(.ptr b7 0, .box [vI (0), vI (0), vI (0), vI (0), vI (0), vI (0)]), (.ptr b2 0, .box [vI (0), vI (0), vI (0), vI (0), vI (0), vI (0)]), (.ptr b1 0, .box [vI (0), vI (0)])]))) SEL ?_ fun _ => ?_
 ·have ho := hc10
  refine run 4 ?_
  refine wbr ho (fun hb11 ho => ?_) fun hb11 ho => ?_
  ·refine run 8 ?_
   cases ho; exact s_nil (lf [] [0, 1, 2])
  ·refine run 4 ?_
   refine wbr ho (fun hb12 ho => ?_) fun hb12 ho => ?_
   ·refine run 4 ?_
    cases ho; exact s_nil (lf [] [0, 1, 2])
   ·refine run 4 ?_
    cases ho; exact s_nil (lf [] [0, 1, 2])
 ·show SRun ..
  refine wct ho (fun hq13 ho => ?_) fun hq13 ho => ?_
  ·refine run 14 ?_
   refine r_draw [6, 1000010, 1000011, 1000019] (by kernel_rfl) ?_ (hdi := rdists rfl (rowns rfl) (.c (.o (j := 2) rfl rfl) (.c (.o (j := 1) rfl rfl) (.c (.o (j := 0) rfl rfl) .n))) rfl)
   refine run 6 ?_
   refine s_loadbs (R := rMotionLedger) (a := (0, 0, 0, 0, 0, (w64 (p_1.1 * p_1.1)), ())) 0 (fun _ h => by cases h <;> rfl) U31 (cells_pair (cells_one rfl) (cells_pair (cells_one rfl) (cells_pair (cells_one rfl) (cells_pair (cells_one rfl) (cells_pair (cells_one rfl) (cells_pair (cells_one rfl) cells_unit rfl) rfl) rfl) rfl) rfl) rfl) (.n rfl) rfl rfl (.t rfl) rfl ?_
   refine run 9 ?_
   cases ho; exact r_ret (ret_of (.inr rfl) (.b 2 U26 (cells_pair (cells_one rfl) (cells_pair (cells_one rfl) cells_unit rfl) rfl) rfl rfl (.b 1 U31 (cells_pair (cells_one rfl) (cells_pair (cells_one rfl) (cells_pair (cells_one rfl) (cells_pair (cells_one rfl) (cells_pair (cells_one rfl) (cells_pair (cells_one rfl) cells_unit rfl) rfl) rfl) rfl) rfl) rfl) rfl rfl (.v rfl .n))) (by decide))
  ·refine run 25 ?_
   refine r_draw [6, 1000010, 1000011, 1000019] (by kernel_rfl) ?_ (hdi := rdists rfl (rowns rfl) (.c (.o (j := 2) rfl rfl) (.c (.o (j := 1) rfl rfl) (.c (.o (j := 0) rfl rfl) .n))) rfl)
   refine run 6 ?_
   refine s_loadbs (R := rMotionLedger) (a := (((w64 ((w64 (200 * y6.1)) * (w64 (p_1.1 + (w64 (100 * (w64 ((w64 ((w64 (y6.1 - y6.2.1)) - y6.2.2.1)) - y6.2.2.2)))))))), (w64 ((w64 (200 * y6.2.1)) * (w64 (p_1.1 + (w64 (100 * (w64 ((w64 ((w64 (y6.1 - y6.2.1)) - y6.2.2.1)) - y6.2.2.2)))))))), (w64 ((w64 (200 * y6.2.2.1)) * (w64 (p_1.1 + (w64 (100 * (w64 ((w64 ((w64 (y6.1 - y6.2.1)) - y6.2.2.1)) - y6.2.2.2)))))))), (w64 ((w64 (200 * y6.2.2.2)) * (w64 (p_1.1 + (w64 (100 * (w64 ((w64 ((w64 (y6.1 - y6.2.1)) - y6.2.2.1)) - y6.2.2.2)))))))), (w64 ((w64 (10000 * (w64 ((w64 ((w64 (y6.1 - y6.2.1)) - y6.2.2.1)) - y6.2.2.2)))) * (w64 ((w64 ((w64 (y6.1 - y6.2.1)) - y6.2.2.1)) - y6.2.2.2)))), 0, ()) : MotionLedger)) 0 (fun _ h => by cases h <;> rfl) U31 (cells_pair (cells_one rfl) (cells_pair (cells_one rfl) (cells_pair (cells_one rfl) (cells_pair (cells_one rfl) (cells_pair (cells_one rfl) (cells_pair (cells_one rfl) cells_unit rfl) rfl) rfl) rfl) rfl) rfl) (.n rfl) rfl rfl (.t rfl) rfl ?_
   refine run 9 ?_
   cases ho; exact r_ret (ret_of (.inr rfl) (.b 2 U26 (cells_pair (cells_one rfl) (cells_pair (cells_one rfl) cells_unit rfl) rfl) rfl rfl (.b 1 U31 (cells_pair (cells_one rfl) (cells_pair (cells_one rfl) (cells_pair (cells_one rfl) (cells_pair (cells_one rfl) (cells_pair (cells_one rfl) (cells_pair (cells_one rfl) cells_unit rfl) rfl) rfl) rfl) rfl) rfl) rfl rfl (.v rfl .n))) (by decide))⟩
instance i44 {t_0 x_1} : FI ktab 44 (g_ref03_Place t_0 x_1) [.val rTrain t_0, .val rMotionState x_1] (fun out => [.val (rInt .i64) (out)]) := ⟨fun out ho => by
 delta g_ref03_Place at ho
 refine fn fun _ _ => ?_
 exact w ho⟩
instance i18 {t_0 x_1 slope_2 state_3} : FI ktab 18 (g_ref03_Braking t_0 x_1 slope_2 state_3) [.val rTrain t_0, .val rMotionState x_1, vI slope_2, vI state_3] (fun out => [.val (rInt .i64) (out.1), .val rBool (out.2)]) := ⟨fun out ho => by
 delta g_ref03_Braking at ho
 refine fn fun _ _ => ?_
 refine run 10 ?_
 refine xal (zv := .agg [.int .i64 0, .int .i64 0]) (es := [vI (0), vI (0)]) (by kernel_rfl) fun b1 => ?_
 refine run 8 ?_
 obtain ⟨t16, ht16, ho⟩ := bnd ho
 refine wlp ht16 [2, 3, 4, 5, 10] (fun s g => ([(11, vI (s.1))], [(.ptr b1 0, .box [vI (s.2.1), vI (s.2.2)])])) (altX (fun b => (.exit 0, fun g => ([], [(.ptr b1 0, .box [vI (b.1), vI (b.2)])]))) (fun b => (.ret, fun g => ([(8, vI (b.1)), (9, vB (b.2.1))], [])))) [] SEL (pk [0]) NE (fun s10 g11 _ ho => ?_) fun g17 => ?_
 ·refine run 7 ?_
  refine wct ho (fun hq12 ho => ?_) fun hq12 ho => ?_
  ·refine run 9 ?_
   refine wct ho (fun hq13 ho => ?_) fun hq13 ho => ?_
   ·exact w ho
   ·refine run 8 ?_
    refine s_loadbs (R := rMotionState) (a := (s10.2.1, s10.2.2, ())) 0 (fun _ h => by cases h <;> rfl) U26 (cells_pair (cells_one rfl) (cells_pair (cells_one rfl) cells_unit rfl) rfl) (.n rfl) rfl rfl (.t rfl) rfl ?_
    refine run 2 ?_
    refine xcl ho ?_
    intro y14 hy14 ho
    show SOps ..
    refine run 12 ?_
    refine wct ho (fun hq15 ho => ?_) fun hq15 ho => ?_
    ·exact w ho
    ·refine run 5 ?_
     cases ho; exact s_nil (lf [] [0])
  ·cases ho; exact r_exit (lf [] [0])
 ·rcases t16 with b18 | b19
  ·have ho := alt_l ho
   show SRun ..
   refine run 1 ?_
   refine r_draw [1] (by kernel_rfl) ?_
   refine run 1 ?_
   refine s_loadbs (R := rMotionState) (a := (b18.1, b18.2, ())) 0 (fun _ h => by cases h <;> rfl) U26 (cells_pair (cells_one rfl) (cells_pair (cells_one rfl) cells_unit rfl) rfl) (.n rfl) rfl rfl (.t rfl) rfl ?_
   exact w ho
  ·have ho := alt_r ho
   cases ho; exact id (ret_of (.inr rfl) (.v rfl (.v rfl .n)) (by decide))⟩
instance i20 {t_0 slope_1 state_2 distance_3} : FI ktab 20 (g_ref03_Sight t_0 slope_1 state_2 distance_3) [.val rTrain t_0, vI slope_1, vI state_2, vI distance_3] (fun out => [.val (rInt .i64) (out)]) := ⟨fun out ho => by
 delta g_ref03_Sight at ho
 refine fn fun _ _ => ?_
 refine run 13 ?_
 obtain ⟨t15, ht15, ho⟩ := bnd ho
 refine wlp ht15 [1, 2, 3, 4] (fun s g => ([(9, vI (s))], [])) (altX (fun b => (.exit 0, fun g => ([], []))) (fun b => (.ret, fun g => ([(8, vI (b))], [])))) [] SEL (pk []) NE (fun s7 g8 _ ho => ?_) fun g16 => ?_
 ·refine run 6 ?_
  refine wct ho (fun hq9 ho => ?_) fun hq9 ho => ?_
  ·refine run 13 ?_
   refine xcl ho ?_
   intro y10 hy10 ho
   show SOps ..
   refine run 10 ?_
   refine wbr ho (fun hb12 ho => ?_) fun hb12 ho => ?_
   ·exact w ho
   ·refine run 5 ?_
    refine r_cond (.t rfl) (fun hq => by cases hq) (fun _ => ?_)
    exact w ho
  ·cases ho; exact r_exit (lf [] [])
 ·rcases t15 with b17 | b18
  ·have ho := alt_l ho
   show SRun ..
   exact w ho
  ·have ho := alt_r ho
   cases ho; exact id (ret_of (.inr rfl) (.v rfl .n) (by decide))⟩
instance i5 {p_0 p_1 p_2 p_3} : FI ktab 5 (g_law03_MotionSights p_0 p_1 p_2 p_3) [.val rTrain p_0, vI p_1, vI p_2, vI p_3] (fun out => [.val rBool (out)]) := ⟨fun out ho => by
 delta g_law03_MotionSights at ho
 refine fn fun _ _ => ?_
 refine run 7 ?_
 obtain ⟨c4, hc4, ho⟩ := bnd ho
 refine wcx c4 [1, 2, 3, 4] (fun t => (.normal, fun _ => ([(23, vB (t))], []))) SEL ?_ fun _ => ?_
 ·exact w hc4
 ·show SRun ..
  refine wct ho (fun hq8 ho => ?_) fun hq8 ho => ?_
  ·exact w ho
  ·refine run 7 ?_
   refine xcl ho ?_
   intro y10 hy10 ho
   show SOps ..
   refine run 8 ?_
   obtain ⟨c14, hc14, ho⟩ := bnd ho
   refine wcx c14 [1, 2, 3, 4, 9, 10] (fun t => (.normal, fun _ => ([(46, vB (t))], []))) SEL ?_ fun _ => ?_
   ·exact w hc14
   ·show SRun ..
    refine wct ho (fun hq18 ho => ?_) fun hq18 ho => ?_
    ·refine run 1 ?_
     obtain ⟨c22, hc22, ho⟩ := bnd ho
     refine wcx c22 [] (fun t => (.normal, fun _ => ([(8, vB (t))], []))) SEL ?_ fun _ => ?_
     ·exact w hc22
     ·show SRun ..
      cases ho; exact r_ret (ret_of (.inr rfl) (.v rfl .n) (by decide))
    ·refine run 2 ?_
     obtain ⟨c30, hc30, ho⟩ := bnd ho
     refine wcx c30 [] (fun t => (.normal, fun _ => ([(8, vB (t))], []))) SEL ?_ fun _ => ?_
     ·exact w hc30
     ·show SRun ..
      cases ho; exact r_ret (ret_of (.inr rfl) (.v rfl .n) (by decide))⟩
end Go.Ai.TabYtcokdbcdlaofbaaGreat
