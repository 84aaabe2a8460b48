/- Written by program: walks through functions. -/
import Derived.Test.YtcokdbcdlaofbaaGreatM18
set_option linter.unusedSimpArgs false
set_option linter.unusedVariables false
set_option linter.unusedSectionVars false
namespace Go.Ai.TabYtcokdbcdlaofbaaGreat
open Go Go.Ai Go.Ai.Sx Go.Proofs
attribute [local irreducible] SOps
set_option maxRecDepth 100000
set_option maxHeartbeats 4000000
instance i39 {x_0 low_1 high_2} : FI ktab 39 (g_ref03_in x_0 low_1 high_2) [vI x_0, vI low_1, vI high_2] (fun out => [.val rBool (out)]) := ⟨fun out ho => by
 delta g_ref03_in at ho
 refine fn fun _ _ => ?_
 refine run 5 ?_
 obtain ⟨c2, hc2, ho⟩ := bnd ho
 refine wcx c2 [] (fun t => (.normal, fun _ => ([(6, vB (t))], []))) SEL ?_ fun _ => ?_
 ·exact w hc2
 ·show SRun ..
  cases ho; exact r_ret (ret_of (.inr rfl) (.v rfl .n) (by decide))⟩
instance i33 {p_0} : FI ktab 33 (g_ref03_Train p_0) [.val rTrain p_0] (fun out => [.val rBool (out)]) := ⟨fun out ho => by
 delta g_ref03_Train at ho
 refine fn fun _ _ => ?_
 refine run 7 ?_
 obtain ⟨c20, hc20, ho⟩ := bnd ho
 refine wcx c20 [1] (fun t => (.normal, fun _ => ([(62, vB (t))], []))) SEL ?_ fun _ => ?_
 ·exact w hc20
 ·show SRun ..
  refine wct ho (fun hq40 ho => ?_) fun hq40 ho => ?_
  ·exact w ho
  ·refine run 7 ?_
   obtain ⟨t51, ht51, ho⟩ := bnd ho
   refine wlp ht51 [1] (fun s g => ([(3, vI (s))], [])) (altX (fun b => (.exit 0, fun g => ([], []))) (fun b => (.ret, fun g => ([(2, vB (b))], [])))) [] SEL (pk []) NE (fun s45 g46 _ ho => ?_) fun g52 => ?_
   ·exact w ho
   ·rcases t51 with b53 | b54
    ·have ho := alt_l ho
     show SRun ..
     exact w ho
    ·have ho := alt_r ho
     cases ho; exact id (ret_of (.inr rfl) (.v rfl .n) (by decide))⟩
instance i38 {t_0 x_1} : FI ktab 38 (g_ref03_State t_0 x_1) [.val rTrain t_0, .val rMotionState x_1] (fun out => [.val rBool (out)]) := ⟨fun out ho => by
 delta g_ref03_State at ho
 refine fn fun _ _ => ?_
 refine run 7 ?_
 obtain ⟨c4, hc4, ho⟩ := bnd ho
 refine wcx c4 [] (fun t => (.normal, fun _ => ([(4, vB (t))], []))) SEL ?_ fun _ => ?_
 ·exact w hc4
 ·show SRun ..
  cases ho; exact r_ret (ret_of (.inr rfl) (.v rfl .n) (by decide))⟩
instance i14 {t_0 x_1 demand_2 slope_3 state_4} : FI ktab 14 (g_ref03_Fine t_0 x_1 demand_2 slope_3 state_4) [.val rTrain t_0, .val rMotionState x_1, vI demand_2, vI slope_3, vI state_4] (fun out => [.val rBool (out)]) := ⟨fun out ho => by
 delta g_ref03_Fine at ho
 refine fn fun _ _ => ?_
 refine run 7 ?_
 obtain ⟨c10, hc10, ho⟩ := bnd ho
 refine wcx c10 [] (fun t => (.normal, fun _ => ([(10, vB (t))], []))) SEL ?_ fun _ => ?_
 ·exact w hc10
 ·show SRun ..
  cases ho; exact r_ret (ret_of (.inr rfl) (.v rfl .n) (by decide))⟩
instance i7 {p_0 p_1 p_2 p_3 p_4 p_5} : FI ktab 7 (g_law03_MotionGrips p_0 p_1 p_2 p_3 p_4 p_5) [.val rTrain p_0, vI p_1, vI p_2, vI p_3, vI p_4, vI p_5] (fun out => [.val rBool (out)]) := ⟨fun out ho => by
 delta g_law03_MotionGrips at ho
 refine fn fun _ _ => ?_
 refine run 7 ?_
 obtain ⟨c7, hc7, ho⟩ := bnd ho
 refine wcx c7 [1, 2, 3, 4, 5, 6] (fun t => (.normal, fun _ => ([(51, vB (t))], []))) SEL ?_ fun _ => ?_
 ·exact w hc7
 ·show SRun ..
  refine wct ho (fun hq14 ho => ?_) fun hq14 ho => ?_
  ·exact w ho
  ·refine run 4 ?_
   refine xal (zv := .agg [.int .i64 0, .int .i64 0, .int .i64 0, .int .i64 0, .int .i64 0, .int .i64 0, .int .i64 0, .int .i64 0, .int .i64 0, .nilslice]) (es := [vI (0), vI (0), vI (0), vI (0), vI (0), vI (0), vI (0), vI (0), vI (0), .val (rSlice (rInt .i64)) ([])]) (by kernel_rfl) fun b16 => ?_
   refine run 6 ?_
   obtain ⟨x17, hx17, ho⟩ := bnd ho
   refine run 13 ?_
   refine xal (zv := .agg [.int .i64 0, .int .i64 0]) (es := [vI (0), vI (0)]) (by kernel_rfl) fun b18 => ?_
   refine run 1 ?_
   refine s_st (st_freezeb (R := rMotionState) (a := ((p_1, 0, ()) : MotionState)) 0 [14] (cells_pair (cells_one rfl) (cells_pair (cells_one rfl) cells_unit rfl) rfl) rfl rfl ⟨rfl, trivial⟩) ?_
   refine run 3 ?_
   obtain ⟨c22, hc22, ho⟩ := bnd ho
   refine wcx c22 [1, 2, 3, 4, 6, 13, 14] (fun t => (.normal, fun _ => ([(78, vB (t))], [(.ptr b16 0, .box [vI (p_0.1), vI (p_0.2.1), vI (p_0.2.2.1), vI (p_0.2.2.2.1), vI (p_0.2.2.2.2.1), vI (p_0.2.2.2.2.2.1), vI (p_0.2.2.2.2.2.2.1), vI (p_0.2.2.2.2.2.2.2.1), vI (p_0.2.2.2.2.2.2.2.2.1), .val (rSlice (rInt .i64)) ([(min 1000 ((w64 (x17 + p_5))))])])]))) SEL ?_ fun _ => ?_
   ·have ho := hc22
    refine run 4 ?_
    refine xcl ho ?_
    intro y23 hy23 ho
    show SOps ..
    refine run 2 ?_
    refine wbr ho (fun hb24 ho => ?_) fun hb24 ho => ?_
    ·refine run 8 ?_
     cases ho; exact s_nil (lf [] [0])
    ·refine run 5 ?_
     refine xcl ho ?_
     intro y25 hy25 ho
     show SOps ..
     refine run 2 ?_
     cases ho; exact s_nil (lf [] [0])
   ·show SRun ..
    refine wct ho (fun hq26 ho => ?_) fun hq26 ho => ?_
    ·exact w ho
    ·refine run 6 ?_
     refine xcl ho ?_
     intro y28 hy28 ho
     show SOps ..
     refine run 12 ?_
     refine wct ho (fun hq29 ho => ?_) fun hq29 ho => ?_
     ·refine run 1 ?_
      obtain ⟨c32, hc32, ho⟩ := bnd ho
      refine wcx c32 [] (fun t => (.normal, fun _ => ([(12, vB (t))], [(.ptr b16 0, .box [vI (p_0.1), vI (p_0.2.1), vI (p_0.2.2.1), vI (p_0.2.2.2.1), vI (p_0.2.2.2.2.1), vI (p_0.2.2.2.2.2.1), vI (p_0.2.2.2.2.2.2.1), vI (p_0.2.2.2.2.2.2.2.1), vI (p_0.2.2.2.2.2.2.2.2.1), .val (rSlice (rInt .i64)) ([(min 1000 ((w64 (x17 + p_5))))])])]))) SEL ?_ fun _ => ?_
      ·have ho := hc32
       refine run 4 ?_
       refine wbr ho (fun hb33 ho => ?_) fun hb33 ho => ?_
       ·refine xcl ho ?_
        intro y34 hy34 ho
        show SOps ..
        refine run 2 ?_
        cases ho; exact s_nil (lf [] [0])
       ·refine run 3 ?_
        cases ho; exact s_nil (lf [] [0])
      ·show SRun ..
       cases ho; exact r_ret (ret_of (.inr rfl) (.v rfl .n) (by decide))
     ·refine run 3 ?_
      refine s_loadbs (R := rTrain) (a := (p_0.1, p_0.2.1, p_0.2.2.1, p_0.2.2.2.1, p_0.2.2.2.2.1, p_0.2.2.2.2.2.1, p_0.2.2.2.2.2.2.1, p_0.2.2.2.2.2.2.2.1, p_0.2.2.2.2.2.2.2.2.1, [(min 1000 ((w64 (x17 + p_5))))], ())) 0 (fun _ h => by cases h <;> rfl) U24 (cells_pair (cells_one rfl) (cells_pair (cells_one rfl) (cells_pair (cells_one rfl) (cells_pair (cells_one rfl) (cells_pair (cells_one rfl) (cells_pair (cells_one rfl) (cells_pair (cells_one rfl) (cells_pair (cells_one rfl) (cells_pair (cells_one rfl) (cells_pair (cells_one rfl) cells_unit rfl) rfl) rfl) rfl) rfl) rfl) rfl) rfl) rfl) rfl) (.n rfl) rfl rfl (.t rfl) rfl ?_
      refine run 2 ?_
      refine xcl ho ?_
      intro y35 hy35 ho
      show SOps ..
      refine run 13 ?_
      refine xcl ho ?_
      intro y36 hy36 ho
      show SOps ..
      refine run 15 ?_
      refine xcl ho ?_
      intro y37 hy37 ho
      show SOps ..
      refine run 7 ?_
      obtain ⟨c45, hc45, ho⟩ := bnd ho
      refine wcx c45 [] (fun t => (.normal, fun _ => ([(12, vB (t))], [(.ptr b16 0, .box [vI (p_0.1), vI (p_0.2.1), vI (p_0.2.2.1), vI (p_0.2.2.2.1), vI (p_0.2.2.2.2.1), vI (p_0.2.2.2.2.2.1), vI (p_0.2.2.2.2.2.2.1), vI (p_0.2.2.2.2.2.2.2.1), vI (p_0.2.2.2.2.2.2.2.2.1), .val (rSlice (rInt .i64)) ([(min 1000 ((w64 (x17 + p_5))))])])]))) SEL ?_ fun _ => ?_
      ·have ho := hc45
       refine run 4 ?_
       refine wbr ho (fun hb46 ho => ?_) fun hb46 ho => ?_
       ·refine run 4 ?_
        refine wbr ho (fun hb47 ho => ?_) fun hb47 ho => ?_
        ·refine run 4 ?_
         refine wbr ho (fun hb48 ho => ?_) fun hb48 ho => ?_
         ·refine run 5 ?_
          refine wbr ho (fun hb49 ho => ?_) fun hb49 ho => ?_
          ·refine run 5 ?_
           refine wbr ho (fun hb50 ho => ?_) fun hb50 ho => ?_
           ·refine run 5 ?_
            refine wbr ho (fun hb51 ho => ?_) fun hb51 ho => ?_
            ·refine xcl ho ?_
             intro y52 hy52 ho
             show SOps ..
             refine run 2 ?_
             cases ho; exact s_nil (lf [] [0])
            ·refine run 3 ?_
             cases ho; exact s_nil (lf [] [0])
           ·refine run 8 ?_
            cases ho; exact s_nil (lf [] [0])
          ·refine run 13 ?_
           cases ho; exact s_nil (lf [] [0])
         ·refine run 18 ?_
          cases ho; exact s_nil (lf [] [0])
        ·refine run 22 ?_
         cases ho; exact s_nil (lf [] [0])
       ·refine run 26 ?_
        cases ho; exact s_nil (lf [] [0])
      ·show SRun ..
       cases ho; exact r_ret (ret_of (.inr rfl) (.v rfl .n) (by decide))⟩
end Go.Ai.TabYtcokdbcdlaofbaaGreat
