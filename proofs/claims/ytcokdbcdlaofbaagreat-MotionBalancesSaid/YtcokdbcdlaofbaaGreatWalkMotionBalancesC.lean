/- Written by program: walks through functions. -/
import Derived.Test.YtcokdbcdlaofbaaGreatM18
set_option linter.unusedSimpArgs false
set_option linter.unusedVariables false
set_option linter.unusedSectionVars false
namespace Go.Ai.TabYtcokdbcdlaofbaaGreat
open Go Go.Ai Go.Ai.Sx Go.Proofs
attribute [local irreducible] SOps
set_option maxRecDepth 100000
set_option maxHeartbeats 4000000
instance i13 {t_0} : FI ktab 13 (g_law03_short t_0) [.val rTrain t_0] (fun out => [.val rBool (out)]) := ⟨fun out ho => by
 delta g_law03_short at ho
 refine fn fun _ _ => ?_
 exact w ho⟩
instance i39 {x_0 low_1 high_2} : FI ktab 39 (g_ref03_in x_0 low_1 high_2) [vI x_0, vI low_1, vI high_2] (fun out => [.val rBool (out)]) := ⟨fun out ho => by
 delta g_ref03_in at ho
 refine fn fun _ _ => ?_
 refine run 5 ?_
 obtain ⟨c2, hc2, ho⟩ := bnd ho
 refine wcx c2 [] (fun t => (.normal, fun _ => ([(6, vB (t))], []))) SEL ?_ fun _ => ?_
 ·exact w hc2
 ·show SRun ..
  cases ho; exact r_ret (ret_of (.inr rfl) (.v rfl .n) (by decide))⟩
instance i33 {p_0} : FI ktab 33 (g_ref03_Train p_0) [.val rTrain p_0] (fun out => [.val rBool (out)]) := ⟨fun out ho => by
 delta g_ref03_Train at ho
 refine fn fun _ _ => ?_
 refine run 7 ?_
 obtain ⟨c20, hc20, ho⟩ := bnd ho
 refine wcx c20 [1] (fun t => (.normal, fun _ => ([(62, vB (t))], []))) SEL ?_ fun _ => ?_
 ·exact w hc20
 ·show SRun ..
  refine wct ho (fun hq40 ho => ?_) fun hq40 ho => ?_
  ·exact w ho
  ·refine run 7 ?_
   obtain ⟨t51, ht51, ho⟩ := bnd ho
   refine wlp ht51 [1] (fun s g => ([(3, vI (s))], [])) (altX (fun b => (.exit 0, fun g => ([], []))) (fun b => (.ret, fun g => ([(2, vB (b))], [])))) [] SEL (pk []) NE (fun s45 g46 _ ho => ?_) fun g52 => ?_
   ·exact w ho
   ·rcases t51 with b53 | b54
    ·have ho := alt_l ho
     show SRun ..
     exact w ho
    ·have ho := alt_r ho
     cases ho; exact id (ret_of (.inr rfl) (.v rfl .n) (by decide))⟩
instance i38 {t_0 x_1} : FI ktab 38 (g_ref03_State t_0 x_1) [.val rTrain t_0, .val rMotionState x_1] (fun out => [.val rBool (out)]) := ⟨fun out ho => by
 delta g_ref03_State at ho
 refine fn fun _ _ => ?_
 refine run 7 ?_
 obtain ⟨c4, hc4, ho⟩ := bnd ho
 refine wcx c4 [] (fun t => (.normal, fun _ => ([(4, vB (t))], []))) SEL ?_ fun _ => ?_
 ·exact w hc4
 ·show SRun ..
  cases ho; exact r_ret (ret_of (.inr rfl) (.v rfl .n) (by decide))⟩
instance i14 {t_0 x_1 demand_2 slope_3 state_4} : FI ktab 14 (g_ref03_Fine t_0 x_1 demand_2 slope_3 state_4) [.val rTrain t_0, .val rMotionState x_1, vI demand_2, vI slope_3, vI state_4] (fun out => [.val rBool (out)]) := ⟨fun out ho => by
 delta g_ref03_Fine at ho
 refine fn fun _ _ => ?_
 refine run 7 ?_
 obtain ⟨c10, hc10, ho⟩ := bnd ho
 refine wcx c10 [] (fun t => (.normal, fun _ => ([(10, vB (t))], []))) SEL ?_ fun _ => ?_
 ·exact w hc10
 ·show SRun ..
  cases ho; exact r_ret (ret_of (.inr rfl) (.v rfl .n) (by decide))⟩
instance i3 {p_0 p_1 p_2 p_3 p_4 p_5} : FI ktab 3 (g_law03_MotionBalances p_0 p_1 p_2 p_3 p_4 p_5) [.val rTrain p_0, .val rMotionState p_1, vI p_2, vI p_3, vI p_4, vI p_5] (fun out => [.val rBool (out)]) := ⟨fun out ho => by
 delta g_law03_MotionBalances at ho
 refine fn fun _ _ => ?_
 refine run 8 ?_
 obtain ⟨c4, hc4, ho⟩ := bnd ho
 refine wcx c4 [2, 3, 4, 5, 6, 7] (fun t => (.normal, fun _ => ([(30, vB (t))], []))) SEL ?_ fun _ => ?_
 ·exact w hc4
 ·show SRun ..
  refine wct ho (fun hq8 ho => ?_) fun hq8 ho => ?_
  ·exact w ho
  ·refine run 8 ?_
   refine xcl ho ?_
   intro y10 hy10 ho
   show SOps ..
   refine run 4 ?_
   refine xal (zv := .agg [.int .i64 0, .int .i64 0]) (es := [vI (0), vI (0)]) (by kernel_rfl) fun b11 => ?_
   refine xal (zv := .agg [.int .i64 0, .int .i64 0, .int .i64 0, .int .i64 0, .int .i64 0, .int .i64 0]) (es := [vI (0), vI (0), vI (0), vI (0), vI (0), vI (0)]) (by kernel_rfl) fun b12 => ?_
   refine run 1 ?_
   refine s_st (st_freezeb (R := rMotionState) (a := y10.1) 1 [13] (cells_pair (cells_one rfl) (cells_pair (cells_one rfl) cells_unit rfl) rfl) rfl rfl ⟨rfl, trivial⟩) ?_
   refine run 1 ?_
   refine s_st (st_freezeb (R := rMotionLedger) (a := y10.2.1) 0 [14] (cells_pair (cells_one rfl) (cells_pair (cells_one rfl) (cells_pair (cells_one rfl) (cells_pair (cells_one rfl) (cells_pair (cells_one rfl) (cells_pair (cells_one rfl) cells_unit rfl) rfl) rfl) rfl) rfl) rfl) rfl rfl ⟨rfl, trivial⟩) ?_
   refine run 8 ?_
   refine wct ho (fun hq13 ho => ?_) fun hq13 ho => ?_
   ·refine run 1 ?_
    obtain ⟨c16, hc16, ho⟩ := bnd ho
    refine wcx c16 [] (fun t => (.normal, fun _ => ([(12, vB (t))], []))) SEL ?_ fun _ => ?_
    ·exact w hc16
    ·show SRun ..
     cases ho; exact r_ret (ret_of (.inr rfl) (.v rfl .n) (by decide))
   ·refine run 3 ?_
    obtain ⟨c21, hc21, ho⟩ := bnd ho
    refine wcx c21 [2, 3, 4, 5, 6, 7, 13, 14] (fun t => (.normal, fun _ => ([(92, vB (t))], []))) SEL ?_ fun _ => ?_
    ·exact w hc21
    ·show SRun ..
     refine wct ho (fun hq24 ho => ?_) fun hq24 ho => ?_
     ·exact w ho
     ·refine run 3 ?_
      obtain ⟨c31, hc31, ho⟩ := bnd ho
      refine wcx c31 [2, 3, 4, 5, 6, 7, 13, 14] (fun t => (.normal, fun _ => ([(125, vB (t))], []))) SEL ?_ fun _ => ?_
      ·exact w hc31
      ·show SRun ..
       refine wct ho (fun hq38 ho => ?_) fun hq38 ho => ?_
       ·exact w ho
       ·refine run 3 ?_
        obtain ⟨c40, hc40, ho⟩ := bnd ho
        refine wcx c40 [2, 3, 4, 5, 6, 7, 13, 14] (fun t => (.normal, fun _ => ([(134, vB (t))], []))) SEL ?_ fun _ => ?_
        ·exact w hc40
        ·show SRun ..
         refine wct ho (fun hq42 ho => ?_) fun hq42 ho => ?_
         ·exact w ho
         ·refine run 14 ?_
          refine xcl ho ?_
          intro y44 hy44 ho
          show SOps ..
          refine run 4 ?_
          refine xal (zv := .agg [.int .i64 0, .int .i64 0]) (es := [vI (0), vI (0)]) (by kernel_rfl) fun b45 => ?_
          refine xal (zv := .agg [.int .i64 0, .int .i64 0, .int .i64 0, .int .i64 0, .int .i64 0, .int .i64 0]) (es := [vI (0), vI (0), vI (0), vI (0), vI (0), vI (0)]) (by kernel_rfl) fun b46 => ?_
          refine run 1 ?_
          refine s_st (st_freezeb (R := rMotionState) (a := y44.1) 1 [16] (cells_pair (cells_one rfl) (cells_pair (cells_one rfl) cells_unit rfl) rfl) rfl rfl ⟨rfl, trivial⟩) ?_
          refine run 1 ?_
          refine s_st (st_freezeb (R := rMotionLedger) (a := y44.2.1) 0 [17] (cells_pair (cells_one rfl) (cells_pair (cells_one rfl) (cells_pair (cells_one rfl) (cells_pair (cells_one rfl) (cells_pair (cells_one rfl) (cells_pair (cells_one rfl) cells_unit rfl) rfl) rfl) rfl) rfl) rfl) rfl rfl ⟨rfl, trivial⟩) ?_
          refine run 3 ?_
          obtain ⟨c52, hc52, ho⟩ := bnd ho
          refine wcx c52 [] (fun t => (.normal, fun _ => ([(12, vB (t))], []))) SEL ?_ fun _ => ?_
          ·exact w hc52
          ·show SRun ..
           cases ho; exact r_ret (ret_of (.inr rfl) (.v rfl .n) (by decide))⟩
end Go.Ai.TabYtcokdbcdlaofbaaGreat
