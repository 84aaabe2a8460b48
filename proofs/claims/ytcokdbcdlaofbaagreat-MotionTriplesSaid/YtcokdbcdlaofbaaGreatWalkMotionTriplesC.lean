/- Written by program: walks through functions. -/
import Derived.Test.YtcokdbcdlaofbaaGreatM18
set_option linter.unusedSimpArgs false
set_option linter.unusedVariables false
set_option linter.unusedSectionVars false
namespace Go.Ai.TabYtcokdbcdlaofbaaGreat
open Go Go.Ai Go.Ai.Sx Go.Proofs
attribute [local irreducible] SOps
set_option maxRecDepth 100000
set_option maxHeartbeats 4000000
instance i13 {t_0} : FI ktab 13 (g_law03_short t_0) [.val rTrain t_0] (fun out => [.val rBool (out)]) := ⟨fun out ho => by
 delta g_law03_short at ho
 refine fn fun _ _ => ?_
 exact w ho⟩
instance i39 {x_0 low_1 high_2} : FI ktab 39 (g_ref03_in x_0 low_1 high_2) [vI x_0, vI low_1, vI high_2] (fun out => [.val rBool (out)]) := ⟨fun out ho => by
 delta g_ref03_in at ho
 refine fn fun _ _ => ?_
 refine run 5 ?_
 obtain ⟨c2, hc2, ho⟩ := bnd ho
 refine wcx c2 [] (fun t => (.normal, fun _ => ([(6, vB (t))], []))) SEL ?_ fun _ => ?_
 ·exact w hc2
 ·show SRun ..
  cases ho; exact r_ret (ret_of (.inr rfl) (.v rfl .n) (by decide))⟩
instance i33 {p_0} : FI ktab 33 (g_ref03_Train p_0) [.val rTrain p_0] (fun out => [.val rBool (out)]) := ⟨fun out ho => by
 delta g_ref03_Train at ho
 refine fn fun _ _ => ?_
 refine run 7 ?_
 obtain ⟨c20, hc20, ho⟩ := bnd ho
 refine wcx c20 [1] (fun t => (.normal, fun _ => ([(62, vB (t))], []))) SEL ?_ fun _ => ?_
 ·exact w hc20
 ·show SRun ..
  refine wct ho (fun hq40 ho => ?_) fun hq40 ho => ?_
  ·exact w ho
  ·refine run 7 ?_
   obtain ⟨t51, ht51, ho⟩ := bnd ho
   refine wlp ht51 [1] (fun s g => ([(3, vI (s))], [])) (altX (fun b => (.exit 0, fun g => ([], []))) (fun b => (.ret, fun g => ([(2, vB (b))], [])))) [] SEL (pk []) NE (fun s45 g46 _ ho => ?_) fun g52 => ?_
   ·exact w ho
   ·rcases t51 with b53 | b54
    ·have ho := alt_l ho
     show SRun ..
     exact w ho
    ·have ho := alt_r ho
     cases ho; exact id (ret_of (.inr rfl) (.v rfl .n) (by decide))⟩
instance i31 {p_0 p_1} : FI ktab 31 (g_motion_Couple p_0 p_1) [.val rTrain p_0, .val rTrain p_1] (fun out => [.val rTrain (out.1), .val (rInt .i64) (out.2)]) := ⟨fun out ho => by
 delta g_motion_Couple at ho
 refine fn fun _ _ => ?_
 refine run 4 ?_
 refine xal (zv := .agg [.int .i64 0, .int .i64 0, .int .i64 0, .int .i64 0, .int .i64 0, .int .i64 0, .int .i64 0, .int .i64 0, .int .i64 0, .nilslice]) (es := [vI (0), vI (0), vI (0), vI (0), vI (0), vI (0), vI (0), vI (0), vI (0), .val (rSlice (rInt .i64)) ([])]) (by kernel_rfl) fun b1 => ?_
 refine run 4 ?_
 obtain ⟨c6, hc6, ho⟩ := bnd ho
 refine wcx c6 [2, 3, 4] (fun t => (.normal, fun _ => ([(25, vB (t))], [(.ptr b1 0, .box [vI (0), vI (0), vI (0), vI (0), vI (0), vI (0), vI (0), vI (0), vI (0), .val (rSlice (rInt .i64)) ([])])]))) SEL ?_ fun _ => ?_
 ·have ho := hc6
  refine run 2 ?_
  refine xcl ho ?_
  intro y7 hy7 ho
  show SOps ..
  refine run 2 ?_
  refine wbr ho (fun hb8 ho => ?_) fun hb8 ho => ?_
  ·refine run 13 ?_
   cases ho; exact s_nil (lf [] [0])
  ·refine run 1 ?_
   refine xcl ho ?_
   intro y9 hy9 ho
   show SOps ..
   refine run 3 ?_
   refine wbr ho (fun hb10 ho => ?_) fun hb10 ho => ?_
   ·refine run 8 ?_
    cases ho; exact s_nil (lf [] [0])
   ·refine run 8 ?_
    cases ho; exact s_nil (lf [] [0])
 ·show SRun ..
  refine wct ho (fun hq11 ho => ?_) fun hq11 ho => ?_
  ·refine run 6 ?_
   cases ho; exact r_ret (ret_of (.inr rfl) (.b 0 U24 (cells_pair (cells_one rfl) (cells_pair (cells_one rfl) (cells_pair (cells_one rfl) (cells_pair (cells_one rfl) (cells_pair (cells_one rfl) (cells_pair (cells_one rfl) (cells_pair (cells_one rfl) (cells_pair (cells_one rfl) (cells_pair (cells_one rfl) (cells_pair (cells_one rfl) cells_unit rfl) rfl) rfl) rfl) rfl) rfl) rfl) rfl) rfl) rfl) rfl rfl (.v rfl .n)) (by decide))
  ·refine run 48 ?_
   refine s_build (R := rTrainN9) Bq242 (.n rfl) rfl rfl rfl (.p (.t rfl) rfl (.p (.t rfl) rfl (.p (.t rfl) rfl (.p (.t rfl) rfl (.p (.t rfl) rfl (.p (.t rfl) rfl (.p (.t rfl) rfl (.p (.t rfl) rfl (.p (.t rfl) rfl (.z (fun _ => znilN) (.n rfl))))))))))) ?_
   refine xal (zv := .agg [.int .i64 0, .int .i64 0, .int .i64 0, .int .i64 0, .int .i64 0, .int .i64 0, .int .i64 0, .int .i64 0, .int .i64 0, .nilslice]) (es := [vI (0), vI (0), vI (0), vI (0), vI (0), vI (0), vI (0), vI (0), vI (0), .val (rSlice (rInt .i64)) ([])]) (by kernel_rfl) fun b12 => ?_
   refine s_storebs 0 Uq242 rfl (cells_pair (cells_one rfl) (cells_pair (cells_one rfl) (cells_pair (cells_one rfl) (cells_pair (cells_one rfl) (cells_pair (cells_one rfl) (cells_pair (cells_one rfl) (cells_pair (cells_one rfl) (cells_pair (cells_one rfl) (cells_pair (cells_one rfl) (cells_pair (cells_one rfl) cells_unit rfl) rfl) rfl) rfl) rfl) rfl) rfl) rfl) rfl) rfl) (by rfl) (.n rfl) rfl rfl (.t rfl) (.t rfl) (by rfl) ?_
   refine s_st (st_nilcell (q := 9) 0 rfl rfl rfl) ?_
   refine s_st (st_nilrow (rInt .i64)) ?_
   refine run 10 ?_
   obtain ⟨t39, ht39, ho⟩ := bnd ho
   refine wlp ht39 [3, 4, 6, 74, 75] (fun s g => ([(76, vI (s.1))], [(.ptr b12 0, .box [vI ((w64 (p_0.1 + p_1.1))), vI ((w64 (p_0.2.1 + p_1.2.1))), vI ((min p_0.2.2.1 p_1.2.2.1)), vI ((w64 (p_0.2.2.2.1 + p_1.2.2.2.1))), vI ((w64 (p_0.2.2.2.2.1 + p_1.2.2.2.2.1))), vI ((w64 (p_0.2.2.2.2.2.1 + p_1.2.2.2.2.2.1))), vI ((w64 (p_0.2.2.2.2.2.2.1 + p_1.2.2.2.2.2.2.1))), vI ((w64 (p_0.2.2.2.2.2.2.2.1 + p_1.2.2.2.2.2.2.2.1))), vI ((min p_0.2.2.2.2.2.2.2.2.1 p_1.2.2.2.2.2.2.2.2.1)), .raw ((gh g 0))]), (.ptr b1 0, .box [vI (0), vI (0), vI (0), vI (0), vI (0), vI (0), vI (0), vI (0), vI (0), .val (rSlice (rInt .i64)) ([])]), ((gh g 0), .row (rInt .i64) (s.2))])) (fun b => (.exit 0, fun g => ([], [(.ptr b12 0, .box [vI ((w64 (p_0.1 + p_1.1))), vI ((w64 (p_0.2.1 + p_1.2.1))), vI ((min p_0.2.2.1 p_1.2.2.1)), vI ((w64 (p_0.2.2.2.1 + p_1.2.2.2.1))), vI ((w64 (p_0.2.2.2.2.1 + p_1.2.2.2.2.1))), vI ((w64 (p_0.2.2.2.2.2.1 + p_1.2.2.2.2.2.1))), vI ((w64 (p_0.2.2.2.2.2.2.1 + p_1.2.2.2.2.2.2.1))), vI ((w64 (p_0.2.2.2.2.2.2.2.1 + p_1.2.2.2.2.2.2.2.1))), vI ((min p_0.2.2.2.2.2.2.2.2.1 p_1.2.2.2.2.2.2.2.2.1)), .raw ((gh g 0))]), (.ptr b1 0, .box [vI (0), vI (0), vI (0), vI (0), vI (0), vI (0), vI (0), vI (0), vI (0), .val (rSlice (rInt .i64)) ([])]), ((gh g 0), .row (rInt .i64) (b))]))) [.nilslice] SEL (pk [1, 2, 0]) NE (fun s29 g30 _ ho => ?_) fun g40 => ?_
   ·refine run 5 ?_
    refine wct ho (fun hq31 ho => ?_) fun hq31 ho => ?_
    ·refine run 6 ?_
     obtain ⟨x32, hx32, ho⟩ := bnd ho
     refine run 5 ?_
     refine r_draw [1] (by kernel_rfl) ?_
     refine run 6 ?_
     obtain ⟨x36, hx36, ho⟩ := bnd ho
     refine run 4 ?_
     obtain ⟨x37, hx37, ho⟩ := bnd ho
     refine xap fun v38 => ?_
     refine run 1 ?_
     refine s_storebo 1 0 (U22).sz rfl rfl (by exact Nat.le_of_ble_eq_true rfl) (.n rfl) rfl rfl (.t rfl) (.t rfl) (by rfl) ?_
     refine run 4 ?_
     cases ho; exact s_nil (lf [v38] [1, 2, 0])
    ·cases ho; exact r_exit (lf [(gh g30 0)] [0, 1, 2])
   ·show SRun ..
    refine run 3 ?_
    refine s_st (st_freezec 2 0 (q := 9) [] rfl rfl rfl rfl (by rfl) trivial) ?_
    refine s_loadbs (R := rTrain) (a := ((w64 (p_0.1 + p_1.1)), (w64 (p_0.2.1 + p_1.2.1)), (min p_0.2.2.1 p_1.2.2.1), (w64 (p_0.2.2.2.1 + p_1.2.2.2.1)), (w64 (p_0.2.2.2.2.1 + p_1.2.2.2.2.1)), (w64 (p_0.2.2.2.2.2.1 + p_1.2.2.2.2.2.1)), (w64 (p_0.2.2.2.2.2.2.1 + p_1.2.2.2.2.2.2.1)), (w64 (p_0.2.2.2.2.2.2.2.1 + p_1.2.2.2.2.2.2.2.1)), (min p_0.2.2.2.2.2.2.2.2.1 p_1.2.2.2.2.2.2.2.2.1), t39, ())) 0 (fun _ h => by cases h <;> rfl) U24 (cells_pair (cells_one rfl) (cells_pair (cells_one rfl) (cells_pair (cells_one rfl) (cells_pair (cells_one rfl) (cells_pair (cells_one rfl) (cells_pair (cells_one rfl) (cells_pair (cells_one rfl) (cells_pair (cells_one rfl) (cells_pair (cells_one rfl) (cells_pair (cells_one rfl) cells_unit rfl) rfl) rfl) rfl) rfl) rfl) rfl) rfl) rfl) rfl) (.n rfl) rfl rfl (.t rfl) rfl ?_
    refine xcl ho ?_
    intro y41 hy41 ho
    show SOps ..
    refine run 2 ?_
    refine wct ho (fun hq42 ho => ?_) fun hq42 ho => ?_
    ·refine run 6 ?_
     cases ho; exact r_ret (ret_of (.inr rfl) (.b 1 U24 (cells_pair (cells_one rfl) (cells_pair (cells_one rfl) (cells_pair (cells_one rfl) (cells_pair (cells_one rfl) (cells_pair (cells_one rfl) (cells_pair (cells_one rfl) (cells_pair (cells_one rfl) (cells_pair (cells_one rfl) (cells_pair (cells_one rfl) (cells_pair (cells_one rfl) cells_unit rfl) rfl) rfl) rfl) rfl) rfl) rfl) rfl) rfl) rfl) rfl rfl (.v rfl .n)) (by decide))
    ·refine run 3 ?_
     refine s_loadbs (R := rTrain) (a := ((w64 (p_0.1 + p_1.1)), (w64 (p_0.2.1 + p_1.2.1)), (min p_0.2.2.1 p_1.2.2.1), (w64 (p_0.2.2.2.1 + p_1.2.2.2.1)), (w64 (p_0.2.2.2.2.1 + p_1.2.2.2.2.1)), (w64 (p_0.2.2.2.2.2.1 + p_1.2.2.2.2.2.1)), (w64 (p_0.2.2.2.2.2.2.1 + p_1.2.2.2.2.2.2.1)), (w64 (p_0.2.2.2.2.2.2.2.1 + p_1.2.2.2.2.2.2.2.1)), (min p_0.2.2.2.2.2.2.2.2.1 p_1.2.2.2.2.2.2.2.2.1), t39, ())) 0 (fun _ h => by cases h <;> rfl) U24 (cells_pair (cells_one rfl) (cells_pair (cells_one rfl) (cells_pair (cells_one rfl) (cells_pair (cells_one rfl) (cells_pair (cells_one rfl) (cells_pair (cells_one rfl) (cells_pair (cells_one rfl) (cells_pair (cells_one rfl) (cells_pair (cells_one rfl) (cells_pair (cells_one rfl) cells_unit rfl) rfl) rfl) rfl) rfl) rfl) rfl) rfl) rfl) rfl) (.n rfl) rfl rfl (.t rfl) rfl ?_
     refine run 3 ?_
     cases ho; exact r_ret (ret_of (.inr rfl) (.b 1 U24 (cells_pair (cells_one rfl) (cells_pair (cells_one rfl) (cells_pair (cells_one rfl) (cells_pair (cells_one rfl) (cells_pair (cells_one rfl) (cells_pair (cells_one rfl) (cells_pair (cells_one rfl) (cells_pair (cells_one rfl) (cells_pair (cells_one rfl) (cells_pair (cells_one rfl) cells_unit rfl) rfl) rfl) rfl) rfl) rfl) rfl) rfl) rfl) rfl) rfl rfl (.v rfl .n)) (by decide))⟩
instance i34 {p_0 p_1} : FI ktab 34 (g_ref03_Same p_0 p_1) [.val rTrain p_0, .val rTrain p_1] (fun out => [.val rBool (out)]) := ⟨fun out ho => by
 delta g_ref03_Same at ho
 refine fn fun _ _ => ?_
 refine run 17 ?_
 refine wct ho (fun hq1 ho => ?_) fun hq1 ho => ?_
 ·exact w ho
 ·refine run 7 ?_
  obtain ⟨t16, ht16, ho⟩ := bnd ho
  refine wlp ht16 [2, 3] (fun s g => ([(5, vI (s))], [])) (altX (fun b => (.exit 0, fun g => ([], []))) (fun b => (.ret, fun g => ([(4, vB (b))], [])))) [] SEL (pk []) NE (fun s8 g9 _ ho => ?_) fun g17 => ?_
  ·exact w ho
  ·rcases t16 with b18 | b19
   ·have ho := alt_l ho
    show SRun ..
    refine run 1 ?_
    obtain ⟨c28, hc28, ho⟩ := bnd ho
    refine wcx c28 [] (fun t => (.normal, fun _ => ([(4, vB (t))], []))) SEL ?_ fun _ => ?_
    ·exact w hc28
    ·show SRun ..
     cases ho; exact r_ret (ret_of (.inr rfl) (.v rfl .n) (by decide))
   ·have ho := alt_r ho
    cases ho; exact id (ret_of (.inr rfl) (.v rfl .n) (by decide))⟩
instance i11 {p_0 p_1 p_2} : FI ktab 11 (g_law03_MotionTriples p_0 p_1 p_2) [.val rTrain p_0, .val rTrain p_1, .val rTrain p_2] (fun out => [.val rBool (out)]) := ⟨fun out ho => by
 delta g_law03_MotionTriples at ho
 refine fn fun _ _ => ?_
 refine run 9 ?_
 obtain ⟨c14, hc14, ho⟩ := bnd ho
 refine wcx c14 [3, 4, 5] (fun t => (.normal, fun _ => ([(62, vB (t))], []))) SEL ?_ fun _ => ?_
 ·exact w hc14
 ·show SRun ..
  refine wct ho (fun hq28 ho => ?_) fun hq28 ho => ?_
  ·exact w ho
  ·refine run 5 ?_
   refine xcl ho ?_
   intro y30 hy30 ho
   show SOps ..
   refine run 3 ?_
   refine xal (zv := .agg [.int .i64 0, .int .i64 0, .int .i64 0, .int .i64 0, .int .i64 0, .int .i64 0, .int .i64 0, .int .i64 0, .int .i64 0, .nilslice]) (es := [vI (0), vI (0), vI (0), vI (0), vI (0), vI (0), vI (0), vI (0), vI (0), .val (rSlice (rInt .i64)) ([])]) (by kernel_rfl) fun b31 => ?_
   refine run 1 ?_
   refine s_st (st_freezeb (R := rTrain) (a := y30.1) 0 [7] (cells_pair (cells_one rfl) (cells_pair (cells_one rfl) (cells_pair (cells_one rfl) (cells_pair (cells_one rfl) (cells_pair (cells_one rfl) (cells_pair (cells_one rfl) (cells_pair (cells_one rfl) (cells_pair (cells_one rfl) (cells_pair (cells_one rfl) (cells_pair (cells_one rfl) cells_unit rfl) rfl) rfl) rfl) rfl) rfl) rfl) rfl) rfl) rfl) rfl rfl ⟨rfl, trivial⟩) ?_
   refine run 6 ?_
   refine xcl ho ?_
   intro y32 hy32 ho
   show SOps ..
   refine run 3 ?_
   refine xal (zv := .agg [.int .i64 0, .int .i64 0, .int .i64 0, .int .i64 0, .int .i64 0, .int .i64 0, .int .i64 0, .int .i64 0, .int .i64 0, .nilslice]) (es := [vI (0), vI (0), vI (0), vI (0), vI (0), vI (0), vI (0), vI (0), vI (0), .val (rSlice (rInt .i64)) ([])]) (by kernel_rfl) fun b33 => ?_
   refine run 1 ?_
   refine s_st (st_freezeb (R := rTrain) (a := y32.1) 0 [9] (cells_pair (cells_one rfl) (cells_pair (cells_one rfl) (cells_pair (cells_one rfl) (cells_pair (cells_one rfl) (cells_pair (cells_one rfl) (cells_pair (cells_one rfl) (cells_pair (cells_one rfl) (cells_pair (cells_one rfl) (cells_pair (cells_one rfl) (cells_pair (cells_one rfl) cells_unit rfl) rfl) rfl) rfl) rfl) rfl) rfl) rfl) rfl) rfl) rfl rfl ⟨rfl, trivial⟩) ?_
   refine run 6 ?_
   refine xcl ho ?_
   intro y34 hy34 ho
   show SOps ..
   refine run 3 ?_
   refine xal (zv := .agg [.int .i64 0, .int .i64 0, .int .i64 0, .int .i64 0, .int .i64 0, .int .i64 0, .int .i64 0, .int .i64 0, .int .i64 0, .nilslice]) (es := [vI (0), vI (0), vI (0), vI (0), vI (0), vI (0), vI (0), vI (0), vI (0), .val (rSlice (rInt .i64)) ([])]) (by kernel_rfl) fun b35 => ?_
   refine run 1 ?_
   refine s_st (st_freezeb (R := rTrain) (a := y34.1) 0 [11] (cells_pair (cells_one rfl) (cells_pair (cells_one rfl) (cells_pair (cells_one rfl) (cells_pair (cells_one rfl) (cells_pair (cells_one rfl) (cells_pair (cells_one rfl) (cells_pair (cells_one rfl) (cells_pair (cells_one rfl) (cells_pair (cells_one rfl) (cells_pair (cells_one rfl) cells_unit rfl) rfl) rfl) rfl) rfl) rfl) rfl) rfl) rfl) rfl) rfl rfl ⟨rfl, trivial⟩) ?_
   refine run 4 ?_
   obtain ⟨c38, hc38, ho⟩ := bnd ho
   refine wcx c38 [3, 5, 7, 8, 11, 12] (fun t => (.normal, fun _ => ([(90, vB (t))], []))) SEL ?_ fun _ => ?_
   ·exact w hc38
   ·show SRun ..
    refine wct ho (fun hq41 ho => ?_) fun hq41 ho => ?_
    ·exact w ho
    ·refine run 3 ?_
     obtain ⟨c43, hc43, ho⟩ := bnd ho
     refine wcx c43 [3, 5, 7, 11] (fun t => (.normal, fun _ => ([(96, vB (t))], []))) SEL ?_ fun _ => ?_
     ·exact w hc43
     ·show SRun ..
      refine wct ho (fun hq45 ho => ?_) fun hq45 ho => ?_
      ·exact w ho
      ·refine run 5 ?_
       refine xcl ho ?_
       intro y47 hy47 ho
       show SOps ..
       refine run 3 ?_
       refine xal (zv := .agg [.int .i64 0, .int .i64 0, .int .i64 0, .int .i64 0, .int .i64 0, .int .i64 0, .int .i64 0, .int .i64 0, .int .i64 0, .nilslice]) (es := [vI (0), vI (0), vI (0), vI (0), vI (0), vI (0), vI (0), vI (0), vI (0), .val (rSlice (rInt .i64)) ([])]) (by kernel_rfl) fun b48 => ?_
       refine run 1 ?_
       refine s_st (st_freezeb (R := rTrain) (a := y47.1) 0 [13] (cells_pair (cells_one rfl) (cells_pair (cells_one rfl) (cells_pair (cells_one rfl) (cells_pair (cells_one rfl) (cells_pair (cells_one rfl) (cells_pair (cells_one rfl) (cells_pair (cells_one rfl) (cells_pair (cells_one rfl) (cells_pair (cells_one rfl) (cells_pair (cells_one rfl) cells_unit rfl) rfl) rfl) rfl) rfl) rfl) rfl) rfl) rfl) rfl) rfl rfl ⟨rfl, trivial⟩) ?_
       refine run 6 ?_
       refine xcl ho ?_
       intro y49 hy49 ho
       show SOps ..
       refine run 3 ?_
       refine xal (zv := .agg [.int .i64 0, .int .i64 0, .int .i64 0, .int .i64 0, .int .i64 0, .int .i64 0, .int .i64 0, .int .i64 0, .int .i64 0, .nilslice]) (es := [vI (0), vI (0), vI (0), vI (0), vI (0), vI (0), vI (0), vI (0), vI (0), .val (rSlice (rInt .i64)) ([])]) (by kernel_rfl) fun b50 => ?_
       refine run 1 ?_
       refine s_st (st_freezeb (R := rTrain) (a := y49.1) 0 [15] (cells_pair (cells_one rfl) (cells_pair (cells_one rfl) (cells_pair (cells_one rfl) (cells_pair (cells_one rfl) (cells_pair (cells_one rfl) (cells_pair (cells_one rfl) (cells_pair (cells_one rfl) (cells_pair (cells_one rfl) (cells_pair (cells_one rfl) (cells_pair (cells_one rfl) cells_unit rfl) rfl) rfl) rfl) rfl) rfl) rfl) rfl) rfl) rfl) rfl rfl ⟨rfl, trivial⟩) ?_
       refine run 3 ?_
       obtain ⟨c55, hc55, ho⟩ := bnd ho
       refine wcx c55 [] (fun t => (.normal, fun _ => ([(6, vB (t))], []))) SEL ?_ fun _ => ?_
       ·exact w hc55
       ·show SRun ..
        cases ho; exact r_ret (ret_of (.inr rfl) (.v rfl .n) (by decide))⟩
end Go.Ai.TabYtcokdbcdlaofbaaGreat
