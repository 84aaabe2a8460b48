/- Written by program: walks through functions. -/
import Derived.Test.YtcokdbcdlaofbaaGreatM18
set_option linter.unusedSimpArgs false
set_option linter.unusedVariables false
set_option linter.unusedSectionVars false
namespace Go.Ai.TabYtcokdbcdlaofbaaGreat
open Go Go.Ai Go.Ai.Sx Go.Proofs
attribute [local irreducible] SOps
set_option maxRecDepth 100000
set_option maxHeartbeats 4000000
instance i13 {t_0} : FI ktab 13 (g_law03_short t_0) [.val rTrain t_0] (fun out => [.val rBool (out)]) := ⟨fun out ho => by
 delta g_law03_short at ho
 refine fn fun _ _ => ?_
 exact w ho⟩
instance i39 {x_0 low_1 high_2} : FI ktab 39 (g_ref03_in x_0 low_1 high_2) [vI x_0, vI low_1, vI high_2] (fun out => [.val rBool (out)]) := ⟨fun out ho => by
 delta g_ref03_in at ho
 refine fn fun _ _ => ?_
 refine run 5 ?_
 obtain ⟨c2, hc2, ho⟩ := bnd ho
 refine wcx c2 [] (fun t => (.normal, fun _ => ([(6, vB (t))], []))) SEL ?_ fun _ => ?_
 ·exact w hc2
 ·show SRun ..
  cases ho; exact r_ret (ret_of (.inr rfl) (.v rfl .n) (by decide))⟩
instance i33 {p_0} : FI ktab 33 (g_ref03_Train p_0) [.val rTrain p_0] (fun out => [.val rBool (out)]) := ⟨fun out ho => by
 delta g_ref03_Train at ho
 refine fn fun _ _ => ?_
 refine run 7 ?_
 obtain ⟨c20, hc20, ho⟩ := bnd ho
 refine wcx c20 [1] (fun t => (.normal, fun _ => ([(62, vB (t))], []))) SEL ?_ fun _ => ?_
 ·exact w hc20
 ·show SRun ..
  refine wct ho (fun hq40 ho => ?_) fun hq40 ho => ?_
  ·exact w ho
  ·refine run 7 ?_
   obtain ⟨t51, ht51, ho⟩ := bnd ho
   refine wlp ht51 [1] (fun s g => ([(3, vI (s))], [])) (altX (fun b => (.exit 0, fun g => ([], []))) (fun b => (.ret, fun g => ([(2, vB (b))], [])))) [] SEL (pk []) NE (fun s45 g46 _ ho => ?_) fun g52 => ?_
   ·exact w ho
   ·rcases t51 with b53 | b54
    ·have ho := alt_l ho
     show SRun ..
     exact w ho
    ·have ho := alt_r ho
     cases ho; exact id (ret_of (.inr rfl) (.v rfl .n) (by decide))⟩
instance i38 {t_0 x_1} : FI ktab 38 (g_ref03_State t_0 x_1) [.val rTrain t_0, .val rMotionState x_1] (fun out => [.val rBool (out)]) := ⟨fun out ho => by
 delta g_ref03_State at ho
 refine fn fun _ _ => ?_
 refine run 7 ?_
 obtain ⟨c4, hc4, ho⟩ := bnd ho
 refine wcx c4 [] (fun t => (.normal, fun _ => ([(4, vB (t))], []))) SEL ?_ fun _ => ?_
 ·exact w hc4
 ·show SRun ..
  cases ho; exact r_ret (ret_of (.inr rfl) (.v rfl .n) (by decide))⟩
instance i14 {t_0 x_1 demand_2 slope_3 state_4} : FI ktab 14 (g_ref03_Fine t_0 x_1 demand_2 slope_3 state_4) [.val rTrain t_0, .val rMotionState x_1, vI demand_2, vI slope_3, vI state_4] (fun out => [.val rBool (out)]) := ⟨fun out ho => by
 delta g_ref03_Fine at ho
 refine fn fun _ _ => ?_
 refine run 7 ?_
 obtain ⟨c10, hc10, ho⟩ := bnd ho
 refine wcx c10 [] (fun t => (.normal, fun _ => ([(10, vB (t))], []))) SEL ?_ fun _ => ?_
 ·exact w hc10
 ·show SRun ..
  cases ho; exact r_ret (ret_of (.inr rfl) (.v rfl .n) (by decide))⟩
instance i21 {t_0} : FI ktab 21 (g_law03_quick t_0) [.val rTrain t_0] (fun out => [.val rBool (out)]) := ⟨fun out ho => by
 delta g_law03_quick at ho
 refine fn fun _ _ => ?_
 exact w ho⟩
instance i6 {p_0 p_1 p_2 p_3} : FI ktab 6 (g_law03_MotionStops p_0 p_1 p_2 p_3) [.val rTrain p_0, vI p_1, vI p_2, vI p_3] (fun out => [.val rBool (out)]) := ⟨fun out ho => by
 delta g_law03_MotionStops at ho
 refine fn fun _ _ => ?_
 refine run 7 ?_
 obtain ⟨c10, hc10, ho⟩ := bnd ho
 refine wcx c10 [1, 2, 3, 4] (fun t => (.normal, fun _ => ([(45, vB (t))], []))) SEL ?_ fun _ => ?_
 ·exact w hc10
 ·show SRun ..
  refine wct ho (fun hq20 ho => ?_) fun hq20 ho => ?_
  ·exact w ho
  ·refine run 7 ?_
   refine xcl ho ?_
   intro y22 hy22 ho
   show SOps ..
   refine run 8 ?_
   obtain ⟨c25, hc25, ho⟩ := bnd ho
   refine wcx c25 [1, 2, 3, 4, 9] (fun t => (.normal, fun _ => ([(66, vB (t))], []))) SEL ?_ fun _ => ?_
   ·exact w hc25
   ·show SRun ..
    refine wct ho (fun hq28 ho => ?_) fun hq28 ho => ?_
    ·exact w ho
    ·refine run 11 ?_
     refine xcl ho ?_
     intro y29 hy29 ho
     show SOps ..
     refine run 8 ?_
     obtain ⟨c31, hc31, ho⟩ := bnd ho
     refine wcx c31 [1, 2, 3, 4, 9] (fun t => (.normal, fun _ => ([(85, vB (t))], []))) SEL ?_ fun _ => ?_
     ·exact w hc31
     ·show SRun ..
      refine wct ho (fun hq33 ho => ?_) fun hq33 ho => ?_
      ·exact w ho
      ·refine run 9 ?_
       refine wct ho (fun hq34 ho => ?_) fun hq34 ho => ?_
       ·exact w ho
       ·refine run 12 ?_
        refine xcl ho ?_
        intro y36 hy36 ho
        show SOps ..
        refine run 7 ?_
        obtain ⟨c42, hc42, ho⟩ := bnd ho
        refine wcx c42 [] (fun t => (.normal, fun _ => ([(8, vB (t))], []))) SEL ?_ fun _ => ?_
        ·exact w hc42
        ·show SRun ..
         cases ho; exact r_ret (ret_of (.inr rfl) (.v rfl .n) (by decide))⟩
end Go.Ai.TabYtcokdbcdlaofbaaGreat
