/- Written by program: walks through functions. -/
import Derived.Test.YtmnbnppfidghoaaM10
import Derived.Test.YtmnbnppfidghoaaM12
set_option linter.unusedSimpArgs false
set_option linter.unusedVariables false
set_option linter.unusedSectionVars false
namespace Go.Ai.TabYtmnbnppfidghoaa
open Go Go.Ai Go.Ai.Sx Go.Proofs
attribute [local irreducible] SOps
set_option maxRecDepth 100000
set_option maxHeartbeats 4000000
instance i4 {p_0} : FI ktab 4 (g_law09_brief p_0) [.val rPlan p_0] (fun out => [.val rBool (out)]) := ⟨fun out ho => by
 delta g_law09_brief at ho
 refine fn fun _ _ => ?_
 refine run 11 ?_
 obtain ⟨t9, ht9, ho⟩ := bnd ho
 refine wlp ht9 [1] (fun s g => ([(3, vI (s))], [])) (altX (fun b => (.exit 0, fun g => ([], []))) (fun b => (.ret, fun g => ([(2, vB (b))], [])))) [] SEL (pk []) NE (fun s4 g5 _ ho => ?_) fun g10 => ?_
 ·exact w ho
 ·rcases t9 with b11 | b12
  ·have ho := alt_l ho
   show SRun ..
   refine run 1 ?_
   obtain ⟨c14, hc14, ho⟩ := bnd ho
   refine wcx c14 [] (fun t => (.normal, fun _ => ([(2, vB (t))], []))) SEL ?_ fun _ => ?_
   ·exact w hc14
   ·show SRun ..
    cases ho; exact r_ret (ret_of (.inr rfl) (.v rfl .n) (by decide))
  ·have ho := alt_r ho
   cases ho; exact id (ret_of (.inr rfl) (.v rfl .n) (by decide))⟩
instance i16 {n_0 low_1 high_2} : FI ktab 16 (g_depot_within n_0 low_1 high_2) [vI n_0, vI low_1, vI high_2] (fun out => [.val rBool (out)]) := ⟨fun out ho => by
 delta g_depot_within at ho
 refine fn fun _ _ => ?_
 refine run 5 ?_
 obtain ⟨c2, hc2, ho⟩ := bnd ho
 refine wcx c2 [] (fun t => (.normal, fun _ => ([(6, vB (t))], []))) SEL ?_ fun _ => ?_
 ·exact w hc2
 ·show SRun ..
  cases ho; exact r_ret (ret_of (.inr rfl) (.v rfl .n) (by decide))⟩
instance i58 {s_0 v_1} : FI ktab 58 (g_slices_Index_int_int s_0 v_1) [.val (rSlice (rInt .i64)) s_0, vI v_1] (fun out => [.val (rInt .i64) (out)]) := ⟨fun out ho => by
 delta g_slices_Index_int_int at ho
 refine fn fun _ _ => ?_
 refine run 12 ?_
 obtain ⟨t9, ht9, ho⟩ := bnd ho
 refine wlp ht9 [0, 1, 7] (fun s g => ([(8, vI (s))], [])) (altX (fun b => (.exit 0, fun g => ([], []))) (fun b => (.ret, fun g => ([(4, vI (b))], [])))) [] SEL (pk []) NE (fun s4 g5 _ ho => ?_) fun g10 => ?_
 ·exact w ho
 ·rcases t9 with b11 | b12
  ·have ho := alt_l ho
   show SRun ..
   exact w ho
  ·have ho := alt_r ho
   cases ho; exact id (ret_of (.inr rfl) (.v rfl .n) (by decide))⟩
instance i18 {s_0 v_1} : FI ktab 18 (g_slices_Contains_int_int s_0 v_1) [.val (rSlice (rInt .i64)) s_0, vI v_1] (fun out => [.val rBool (out)]) := ⟨fun out ho => by
 delta g_slices_Contains_int_int at ho
 refine fn fun _ _ => ?_
 exact w ho⟩
instance i48 {x_0 low_1 high_2} : FI ktab 48 (g_track_within x_0 low_1 high_2) [vI x_0, vI low_1, vI high_2] (fun out => [.val rBool (out)]) := ⟨fun out ho => by
 delta g_track_within at ho
 refine fn fun _ _ => ?_
 refine run 5 ?_
 obtain ⟨c2, hc2, ho⟩ := bnd ho
 refine wcx c2 [] (fun t => (.normal, fun _ => ([(6, vB (t))], []))) SEL ?_ fun _ => ?_
 ·exact w hc2
 ·show SRun ..
  cases ho; exact r_ret (ret_of (.inr rfl) (.v rfl .n) (by decide))⟩
instance i76 {s_0 f_1} : FI ktab 76 (g_slices_IndexFunc_api_Node_api_Node s_0 f_1) [.val (rSlice rANode) s_0, .val (rFn ktab (ANode) (Bool) (fun x => [.val rANode (x)]) (fun y => [.val rBool (y)])) f_1] (fun out => [.val (rInt .i64) (out)]) := ⟨fun out ho => by
 delta g_slices_IndexFunc_api_Node_api_Node at ho
 refine fn fun _ _ => ?_
 refine run 12 ?_
 obtain ⟨t11, ht11, ho⟩ := bnd ho
 refine wlp ht11 [0, 1, 7] (fun s g => ([(8, vI (s))], [])) (altX (fun b => (.exit 0, fun g => ([], []))) (fun b => (.ret, fun g => ([(4, vI (b))], [])))) [] SEL (pk []) NE (fun s5 g6 _ ho => ?_) fun g12 => ?_
 ·refine run 5 ?_
  refine wct ho (fun hq7 ho => ?_) fun hq7 ho => ?_
  ·refine run 13 ?_
   obtain ⟨x8, hx8, ho⟩ := bnd ho
   refine run 2 ?_
   obtain ⟨y9, hy9, ho⟩ := bnd ho
   refine s_callv (X := (ANode)) (Y := (Bool)) (f := f_1) (x := x8) hy9 (.n rfl) rfl rfl rfl (.t rfl) (.c (.t rfl) .n) ?_
   exact w ho
  ·cases ho; exact r_exit (lf [] [])
 ·rcases t11 with b13 | b14
  ·have ho := alt_l ho
   show SRun ..
   exact w ho
  ·have ho := alt_r ho
   cases ho; exact id (ret_of (.inr rfl) (.v rfl .n) (by decide))⟩
instance i49 {s_0 f_1} : FI ktab 49 (g_slices_ContainsFunc_api_Node_api_Node s_0 f_1) [.val (rSlice rANode) s_0, .val (rFn ktab (ANode) (Bool) (fun x => [.val rANode (x)]) (fun y => [.val rBool (y)])) f_1] (fun out => [.val rBool (out)]) := ⟨fun out ho => by
 delta g_slices_ContainsFunc_api_Node_api_Node at ho
 refine fn fun _ _ => ?_
 exact w ho⟩
instance i77 {s_0} : FI ktab 77 (g_track_spot s_0) [.val rSpot s_0] (fun out => [.val rBool (out)]) := ⟨fun out ho => by
 delta g_track_spot at ho
 refine fn fun _ _ => ?_
 refine run 6 ?_
 obtain ⟨c4, hc4, ho⟩ := bnd ho
 refine wcx c4 [] (fun t => (.normal, fun _ => ([(2, vB (t))], []))) SEL ?_ fun _ => ?_
 ·exact w hc4
 ·show SRun ..
  cases ho; exact r_ret (ret_of (.inr rfl) (.v rfl .n) (by decide))⟩
instance i78 : FI ktab 78 (g_track_sizes) [] (fun out => [.val (rArr 7 (rInt .i64)) (out)]) := ⟨fun out ho => by
 delta g_track_sizes at ho
 refine fn fun _ _ => ?_
 refine run 2 ?_
 refine xal (zv := .agg [.int .i64 0, .int .i64 0, .int .i64 0, .int .i64 0, .int .i64 0, .int .i64 0, .int .i64 0]) (es := [.raw (.int .i64 0), .raw (.int .i64 0), .raw (.int .i64 0), .raw (.int .i64 0), .raw (.int .i64 0), .raw (.int .i64 0), .raw (.int .i64 0)]) (by kernel_rfl) fun b1 => ?_
 refine run 3 ?_
 refine s_builda0 (R := (rInt .i64)) (zc := [.int .i64 0, .int .i64 0, .int .i64 0, .int .i64 0, .int .i64 0, .int .i64 0, .int .i64 0]) 1 0 AR142 (by kernel_rfl) (by rfl) (fun _ j hj => (match j, hj with | 0, _ => zint)) (.n rfl) rfl rfl (.c (.i (by decide) (by decide)) (.c (.i (by decide) (by decide)) (.c (.i (by decide) (by decide)) (.c (.i (by decide) (by decide)) (.c (.i (by decide) (by decide)) (.c (.i (by decide) (by decide)) .n)))))) (by rfl) ?_
 refine s_storeab 0 AR142 rfl (by rfl) (by decide) (.n rfl) rfl rfl (.t rfl) (.t rfl) (by rfl) ?_
 refine run 1 ?_
 cases ho; exact r_ret (ret_of (.inr rfl) (.a 0 AR142 rfl rfl .n) (by decide))⟩
instance i51 {n_0} : FI ktab 51 (g_track_node n_0) [.val rANode n_0] (fun out => [.val rBool (out)]) := ⟨fun out ho => by
 delta g_track_node at ho
 refine fn fun _ _ => ?_
 refine run 7 ?_
 obtain ⟨c13, hc13, ho⟩ := bnd ho
 refine wcx c13 [1] (fun t => (.normal, fun _ => ([(26, vB (t))], []))) SEL ?_ fun _ => ?_
 ·exact w hc13
 ·show SRun ..
  refine wct ho (fun hq20 ho => ?_) fun hq20 ho => ?_
  ·exact w ho
  ·refine run 3 ?_
   obtain ⟨c22, hc22, ho⟩ := bnd ho
   refine wcx c22 [1] (fun t => (.normal, fun _ => ([(34, vB (t))], []))) SEL ?_ fun _ => ?_
   ·exact w hc22
   ·show SRun ..
    exact w ho⟩
instance i50 {n_0} : FI ktab 50 (g_track_Check_1 n_0) [.val rANode n_0] (fun out => [.val rBool (out)]) := ⟨fun out ho => by
 delta g_track_Check_1 at ho
 refine fn fun _ _ => ?_
 exact w ho⟩
instance i79 {s_0 f_1} : FI ktab 79 (g_slices_IndexFunc_api_Rail_api_Rail s_0 f_1) [.val (rSlice rRail) s_0, .val (rFn ktab (Rail) (Bool) (fun x => [.val rRail (x)]) (fun y => [.val rBool (y)])) f_1] (fun out => [.val (rInt .i64) (out)]) := ⟨fun out ho => by
 delta g_slices_IndexFunc_api_Rail_api_Rail at ho
 refine fn fun _ _ => ?_
 refine run 12 ?_
 obtain ⟨t11, ht11, ho⟩ := bnd ho
 refine wlp ht11 [0, 1, 7] (fun s g => ([(8, vI (s))], [])) (altX (fun b => (.exit 0, fun g => ([], []))) (fun b => (.ret, fun g => ([(4, vI (b))], [])))) [] SEL (pk []) NE (fun s5 g6 _ ho => ?_) fun g12 => ?_
 ·refine run 5 ?_
  refine wct ho (fun hq7 ho => ?_) fun hq7 ho => ?_
  ·refine run 13 ?_
   obtain ⟨x8, hx8, ho⟩ := bnd ho
   refine run 2 ?_
   obtain ⟨y9, hy9, ho⟩ := bnd ho
   refine s_callv (X := (Rail)) (Y := (Bool)) (f := f_1) (x := x8) hy9 (.n rfl) rfl rfl rfl (.t rfl) (.c (.t rfl) .n) ?_
   exact w ho
  ·cases ho; exact r_exit (lf [] [])
 ·rcases t11 with b13 | b14
  ·have ho := alt_l ho
   show SRun ..
   exact w ho
  ·have ho := alt_r ho
   cases ho; exact id (ret_of (.inr rfl) (.v rfl .n) (by decide))⟩
instance i52 {s_0 f_1} : FI ktab 52 (g_slices_ContainsFunc_api_Rail_api_Rail s_0 f_1) [.val (rSlice rRail) s_0, .val (rFn ktab (Rail) (Bool) (fun x => [.val rRail (x)]) (fun y => [.val rBool (y)])) f_1] (fun out => [.val rBool (out)]) := ⟨fun out ho => by
 delta g_slices_ContainsFunc_api_Rail_api_Rail at ho
 refine fn fun _ _ => ?_
 exact w ho⟩
instance i86 {n_1} : FI ktab 86 (g_slices_Grow_api_Spot_api_Spot n_1) [.raw .nilslice, vI n_1] (fun out => [.row rSpot (out)]) := ⟨fun out ho => by
 delta g_slices_Grow_api_Spot_api_Spot at ho
 refine fn fun _ _ => ?_
 refine run 2 ?_
 refine s_assign (.n rfl) rfl rfl (.nil (R := rSpot)) ?_
 refine run 7 ?_
 refine wct ho (fun hq1 ho => ?_) fun hq1 ho => ?_
 ·refine run 1 ?_
  cases ho
 ·refine run 6 ?_
  refine s_capnil (et := 38) (by kernel_rfl) rfl (.n rfl) rfl rfl (.t rfl) ?_
  refine run 1 ?_
  refine s_st (st_nilval rSpot (n := 11) rfl) ?_
  refine run 10 ?_
  refine wct ho (fun hq2 ho => ?_) fun hq2 ho => ?_
  ·refine run 3 ?_
   refine s_capnil (et := 38) (by kernel_rfl) rfl (.n rfl) rfl rfl (.t rfl) ?_
   refine s_slnil (et := 38) (n := 2) (by kernel_rfl) (by kernel_rfl) (.n rfl) rfl rfl (.t rfl) (.t rfl) ?_
   refine run 1 ?_
   obtain ⟨x3, hx3, ho⟩ := bnd ho
   refine s_appz S73 Y38 Z38 (by kernel_rfl) rfl hx3 rfl (.n rfl) rfl rfl (.t rfl) (.t rfl) rfl ?_
   intro v4
   refine run 1 ?_
   refine s_st (st_nilval rSpot (n := 23) rfl) ?_
   refine run 1 ?_
   obtain ⟨x5, hx5, ho⟩ := bnd ho
   refine s_slo0 0 S73 (slz_inv hx5) (.n rfl) rfl rfl (.t rfl) rfl (.t rfl) rfl ?_
   intro v6
   exact w ho
  ·refine run 6 ?_
   cases ho
   refine r_st (st_nilrow rSpot) ?_
   exact r_ret (ret_of (.inr rfl) (.r 0 rfl rfl .n) (by decide))⟩
instance i84 {slices_0} : FI ktab 84 (g_slices_Concat_api_Spot_api_Spot slices_0) [.val (rSlice (rSlice rSpot)) slices_0] (fun out => [.row rSpot (out)]) := ⟨fun out ho => by
 delta g_slices_Concat_api_Spot_api_Spot at ho
 refine fn fun _ _ => ?_
 refine run 2 ?_
 refine s_st (st_nilrow rSpot) ?_
 refine s_assign (.n rfl) rfl rfl .nilr ?_
 refine run 13 ?_
 obtain ⟨t9, ht9, ho⟩ := bnd ho
 refine wlp ht9 [0, 9, 10] (fun s g => ([(3, vI (s.1)), (11, vI (s.2))], [])) (fun b => (.exit 0, fun g => ([(3, vI (b))], []))) [] SEL (pk []) NE (fun s4 g5 _ ho => ?_) fun g10 => ?_
 ·refine run 5 ?_
  refine wct ho (fun hq6 ho => ?_) fun hq6 ho => ?_
  ·refine run 5 ?_
   obtain ⟨x7, hx7, ho⟩ := bnd ho
   refine run 17 ?_
   refine wct ho (fun hq8 ho => ?_) fun hq8 ho => ?_
   ·refine run 1 ?_
    cases ho
   ·exact w ho
  ·cases ho; exact r_exit (lf [] [])
 ·show SRun ..
  refine run 3 ?_
  obtain ⟨y11, hy11, ho⟩ := bnd ho
  refine s_calll (i86.ok _ hy11) (.r (flat_pair flat_int (flat_pair flat_int flat_unit)) .n) rfl (.n rfl) rfl rfl rfl .f (.c (.o .nilr) (.c (.o (.t rfl)) .n)) ?_
  intro v12
  show SOps ..
  refine run 10 ?_
  obtain ⟨t23, ht23, ho⟩ := bnd ho
  refine wlp ht23 [25, 26] (fun s g => ([(6, .raw ((gh g 0))), (27, vI (s.2))], [((gh g 0), .row rSpot (s.1))])) (fun b => (.exit 2, fun g => ([(6, .raw ((gh g 0)))], [((gh g 0), .row rSpot (b))]))) [v12] SEL (pk [0]) NE (fun s17 g18 _ ho => ?_) fun g24 => ?_
  ·refine run 5 ?_
   refine wct ho (fun hq19 ho => ?_) fun hq19 ho => ?_
   ·refine run 5 ?_
    obtain ⟨x20, hx20, ho⟩ := bnd ho
    refine run 7 ?_
    obtain ⟨x21, hx21, ho⟩ := bnd ho
    refine xap fun v22 => ?_
    refine run 5 ?_
    cases ho; exact s_nil (lf [v22] [0])
   ·cases ho; exact r_exit (lf [(gh g18 0)] [0])
  ·show SRun ..
   exact w ho⟩
instance i80 {p_0 r_1} : FI ktab 80 (g_track_line p_0 r_1) [.val rPlan p_0, .val rRail r_1] (fun out => [.row rSpot (out)]) := ⟨fun out ho => by
 delta g_track_line at ho
 refine fn fun _ _ => ?_
 refine run 4 ?_
 refine s_st (st_nilrow rSpot) ?_
 refine s_assign (.n rfl) rfl rfl .nilr ?_
 refine run 7 ?_
 obtain ⟨x5, hx5, ho⟩ := bnd ho
 refine run 10 ?_
 obtain ⟨x6, hx6, ho⟩ := bnd ho
 refine run 5 ?_
 refine xcl ho ?_
 intro y7 hy7 ho v8
 exact w ho⟩
instance i85 {n_0} : FI ktab 85 (g_track_root n_0) [vI n_0] (fun out => [.val (rInt .i64) (out)]) := ⟨fun out ho => by
 delta g_track_root at ho
 refine fn fun _ _ => ?_
 refine run 7 ?_
 refine s_cif (by kernel_rfl) (by kernel_rfl) (.n rfl) rfl rfl (.t rfl) ?_
 obtain ⟨x1, hx1, ho⟩ := bnd ho
 refine s_prim (p := sqrtP) rfl (sqrtP_eq hx1) (fun _ => raw_te) (.n rfl) rfl rfl rfl .f (prim1 (.t rfl)) ?_
 obtain ⟨x2, hx2, ho⟩ := bnd ho
 refine s_cfi (by kernel_rfl) (by kernel_rfl) hx2 (.n rfl) rfl rfl (.t rfl) ?_
 refine run 4 ?_
 obtain ⟨t7, ht7, ho⟩ := bnd ho
 refine wlp ht7 [0] (fun s g => ([(3, vI (s))], [])) (fun b => (.exit 0, fun g => ([(3, vI (b))], []))) [] SEL (pk []) NE (fun s4 g5 _ ho => ?_) fun g8 => ?_
 ·exact w ho
 ·show SRun ..
  refine run 2 ?_
  obtain ⟨t13, ht13, ho⟩ := bnd ho
  refine wlp ht13 [0] (fun s g => ([(3, vI (s))], [])) (fun b => (.exit 2, fun g => ([(3, vI (b))], []))) [] SEL (pk []) NE (fun s10 g11 _ ho => ?_) fun g14 => ?_
  ·exact w ho
  ·show SRun ..
   exact w ho⟩
instance i81 {a_0 b_1} : FI ktab 81 (g_track_span a_0 b_1) [.val rSpot a_0, .val rSpot b_1] (fun out => [.val (rInt .i64) (out)]) := ⟨fun out ho => by
 delta g_track_span at ho
 refine fn fun _ _ => ?_
 exact w ho⟩
instance i54 {p_0 p_1} : FI ktab 54 (g_track_rail p_0 p_1) [.val rPlan p_0, .val rRail p_1] (fun out => [.val rBool (out)]) := ⟨fun out ho => by
 delta g_track_rail at ho
 refine fn fun _ _ => ?_
 refine run 8 ?_
 obtain ⟨c9, hc9, ho⟩ := bnd ho
 refine wcx c9 [2, 3] (fun t => (.normal, fun _ => ([(43, vB (t))], []))) SEL ?_ fun _ => ?_
 ·exact w hc9
 ·show SRun ..
  refine wct ho (fun hq18 ho => ?_) fun hq18 ho => ?_
  ·exact w ho
  ·refine run 5 ?_
   refine xcl ho ?_
   intro y19 hy19 ho v20
   show SOps ..
   refine run 10 ?_
   obtain ⟨t71, ht71, ho⟩ := bnd ho
   refine wlp ht71 [5, 47, 48] (fun s g => ([(49, vI (s))], [(v20, .row rSpot (y19))])) (altX (fun b => (.exit 0, fun g => ([], []))) (fun b => (.ret, fun g => ([(4, vB (b))], [])))) [] SEL (pk [0]) NE (fun s45 g46 _ ho => ?_) fun g72 => ?_
   ·refine run 5 ?_
    refine wct ho (fun hq47 ho => ?_) fun hq47 ho => ?_
    ·refine run 6 ?_
     obtain ⟨x48, hx48, ho⟩ := bnd ho
     refine run 2 ?_
     refine xal (zv := .agg [.int .i64 0, .int .i64 0]) (es := [vI (0), vI (0)]) (by kernel_rfl) fun b49 => ?_
     refine run 2 ?_
     refine s_st (st_freezeb (R := rSpot) (a := x48) 0 [7] (cells_pair (cells_one rfl) (cells_pair (cells_one rfl) cells_unit rfl) rfl) rfl rfl ⟨rfl, trivial⟩) ?_
     refine run 2 ?_
     refine r_draw [11] (by kernel_rfl) ?_
     refine run 1 ?_
     refine xcl ho ?_
     intro y62 hy62 ho
     show SOps ..
     refine run 2 ?_
     refine wbr ho (fun hb63 ho => ?_) fun hb63 ho => ?_
     ·refine run 15 ?_
      refine r_cond (.t rfl) (fun _ => ?_) (fun hq => by cases hq)
      exact w ho
     ·refine run 3 ?_
      refine wbr ho (fun hb65 ho => ?_) fun hb65 ho => ?_
      ·refine run 3 ?_
       obtain ⟨x66, hx66, ho⟩ := bnd ho
       refine run 3 ?_
       refine xcl ho ?_
       intro y67 hy67 ho
       show SOps ..
       refine xcl ho ?_
       intro y68 hy68 ho
       show SOps ..
       refine run 4 ?_
       refine wct ho (fun hq69 ho => ?_) fun hq69 ho => ?_
       ·exact w ho
       ·refine run 4 ?_
        cases ho; exact s_nil (lf [] [0])
      ·refine run 12 ?_
       refine r_cond (.t rfl) (fun hq => by cases hq) (fun _ => ?_)
       refine run 4 ?_
       cases ho; exact s_nil (lf [] [0])
    ·cases ho; exact r_exit (lf [] [])
   ·rcases t71 with b73 | b74
    ·have ho := alt_l ho
     show SRun ..
     exact w ho
    ·have ho := alt_r ho
     cases ho; exact id (ret_of (.inr rfl) (.v rfl .n) (by decide))⟩
instance i53 {r_0 p_1} : FI ktab 53 (g_track_Check_2 r_0 p_1) [.val rRail r_0, .val (rPtr rPlan) p_1] (fun out => [.val rBool (out)]) := ⟨fun out ho => by
 delta g_track_Check_2 at ho
 refine fn fun _ _ => ?_
 exact w ho⟩
instance i55 {p_0 e_1} : FI ktab 55 (g_track_ending p_0 e_1) [.val rPlan p_0, .val rRailEnd e_1] (fun out => [.val (rInt .i64) (out)]) := ⟨fun out ho => by
 delta g_track_ending at ho
 refine fn fun _ _ => ?_
 exact w ho⟩
instance i15 {p_0} : FI ktab 15 (g_track_Check p_0) [.val rPlan p_0] (fun out => [.val (rInt .i64) (out)]) := ⟨fun out ho => by
 delta g_track_Check at ho
 refine fn fun _ _ => ?_
 refine run 7 ?_
 obtain ⟨c4, hc4, ho⟩ := bnd ho
 refine wcx c4 [1] (fun t => (.normal, fun _ => ([(19, vB (t))], []))) SEL ?_ fun _ => ?_
 ·exact w hc4
 ·show SRun ..
  refine wct ho (fun hq8 ho => ?_) fun hq8 ho => ?_
  ·exact w ho
  ·refine run 3 ?_
   obtain ⟨c12, hc12, ho⟩ := bnd ho
   refine wcx c12 [1] (fun t => (.normal, fun _ => ([(28, vB (t))], []))) SEL ?_ fun _ => ?_
   ·have ho := hc12
    refine run 3 ?_
    obtain ⟨y13, hy13, ho⟩ := bnd ho
    refine s_calll (i49.ok _ hy13) (.v flat_bool .n) rfl (.n rfl) rfl rfl rfl .f (.c (.o (.t rfl)) (.c (.o (.fv (opd_fn (fun x y hf => i50.ok _ hf) rfl))) .n)) ?_
    show SOps ..
    refine run 1 ?_
    refine wbr ho (fun hb14 ho => ?_) fun hb14 ho => ?_
    ·exact w ho
    ·refine run 2 ?_
     refine s_mkfn (X := (Rail)) (Y := (Bool)) (fun x => [.val rRail (x)]) (fun y => [.val rBool (y)]) (f := (fun x => g_track_Check_2 x p_0)) (fun x y hf => i53.ok _ hf) rfl (.g rfl rfl (gf0 hb14)) rfl rfl .n (.c (.t rfl) .n) ?_
     exact w ho
   ·show SRun ..
    refine wct ho (fun hq16 ho => ?_) fun hq16 ho => ?_
    ·exact w ho
    ·refine run 3 ?_
     refine s_mkmap rBool MP119 rfl (.n rfl) rfl rfl ?_
     intro b17
     refine run 11 ?_
     obtain ⟨t173, ht173, ho⟩ := bnd ho
     refine wlp ht173 [] (fun s g => ([(1, .val (rPtr rPlan) (p_0)), (3, .raw (.map b17)), (31, .val (rSlice rANode) (p_0.1)), (32, vI ((lenI p_0.1))), (33, vI (s.1))], [(.map b17, .mp rRailEnd rBool (s.2))])) (altX (fun b => (.exit 0, fun g => ([(1, .val (rPtr rPlan) (p_0)), (3, .raw (.map b17))], [(.map b17, .mp rRailEnd rBool (b))]))) (fun b => (.ret, fun g => ([(2, vI (b))], [])))) [] SEL (pk [0]) NE (fun s120 g121 _ ho => ?_) fun g174 => ?_
     ·refine run 5 ?_
      refine wct ho (fun hq122 ho => ?_) fun hq122 ho => ?_
      ·refine run 6 ?_
       obtain ⟨x123, hx123, ho⟩ := bnd ho
       refine run 2 ?_
       refine xal (zv := .agg [.int .i64 0, .int .i64 0, .int .i64 0, .nilslice, .int .i64 0]) (es := [vI (0), vI (0), vI (0), .val (rSlice rRailEnd) ([]), vI (0)]) (by kernel_rfl) fun b124 => ?_
       refine run 2 ?_
       refine s_st (st_freezeb (R := rANode) (a := x123) 0 [5] (cells_pair (cells_pair (cells_one rfl) (cells_pair (cells_one rfl) cells_unit rfl) rfl) (cells_pair (cells_one rfl) (cells_pair (cells_one rfl) (cells_pair (cells_one rfl) cells_unit rfl) rfl) rfl) rfl) rfl rfl ⟨rfl, trivial⟩) ?_
       refine run 9 ?_
       obtain ⟨t169, ht169, ho⟩ := bnd ho
       refine wlp ht169 [1, 3, 4, 31, 32, 33, 39, 40] (fun s g => ([(41, vI (s.1))], [(.map b17, .mp rRailEnd rBool (s.2))])) (altX (fun b => (.exit 2, fun g => ([], [(.map b17, .mp rRailEnd rBool (b))]))) (fun b => (.ret, fun g => ([(2, vI (b.1))], [])))) [] SEL (pk [0]) NE (fun s153 g154 _ ho => ?_) fun g170 => ?_
       ·refine run 5 ?_
        refine wct ho (fun hq155 ho => ?_) fun hq155 ho => ?_
        ·refine run 5 ?_
         obtain ⟨x156, hx156, ho⟩ := bnd ho
         refine run 2 ?_
         refine xal (zv := .agg [.int .i64 0, .bool false]) (es := [vI (0), vB (false)]) (by kernel_rfl) fun b157 => ?_
         refine run 1 ?_
         refine s_st (st_freezeb (R := rRailEnd) (a := x156) 0 [7] (cells_pair (cells_one rfl) (cells_pair (cells_one rfl) cells_unit rfl) rfl) rfl rfl ⟨rfl, trivial⟩) ?_
         refine run 10 ?_
         refine xcl ho ?_
         intro y162 hy162 ho
         show SOps ..
         refine run 2 ?_
         refine wbr ho (fun hb163 ho => ?_) fun hb163 ho => ?_
         ·refine run 12 ?_
          refine r_cond (.t rfl) (fun _ => ?_) (fun hq => by cases hq)
          exact w ho
         ·refine run 2 ?_
          refine s_look 0 rfl MP119 Z4 rfl (.g rfl rfl (gf0 hb163)) rfl rfl (.t rfl) (.t rfl) ?_
          refine run 2 ?_
          refine wbr ho (fun hb165 ho => ?_) fun hb165 ho => ?_
          ·refine run 7 ?_
           refine r_cond (.t rfl) (fun _ => ?_) (fun hq => by cases hq)
           exact w ho
          ·refine run 2 ?_
           refine xcl ho ?_
           intro y167 hy167 ho
           show SOps ..
           refine run 4 ?_
           refine wct ho (fun hq168 ho => ?_) fun hq168 ho => ?_
           ·exact w ho
           ·refine run 4 ?_
            refine s_mapset 0 MP119 (.inl rfl) rfl (.n rfl) rfl (.t rfl) (.t rfl) .b rfl ?_
            refine run 4 ?_
            cases ho; exact s_nil (lf [] [0])
        ·cases ho; exact r_exit (lf [] [0])
       ·rcases t169 with b171 | b172
        ·have ho := alt_l ho
         show SRun ..
         refine run 3 ?_
         cases ho; exact s_nil (lf [] [0])
        ·have ho := alt_r ho
         cases ho; exact id (lf [] [])
      ·cases ho; exact r_exit (lf [] [0])
     ·rcases t173 with b175 | b176
      ·have ho := alt_l ho
       show SRun ..
       refine run 4 ?_
       obtain ⟨x177, hx177, ho⟩ := bnd ho
       refine s_lenm (st := 119) (kt := 81) (et := 4) 0 rfl (by kernel_rfl) hx177 rfl rfl (.n rfl) rfl rfl (.t rfl) ?_
       exact w ho
      ·have ho := alt_r ho
       cases ho; exact id (ret_of (.inr rfl) (.v rfl .n) (by decide))⟩
instance i56 {p_0} : FI ktab 56 (g_track_open p_0) [.val rPlan p_0] (fun out => [.val (rPtrN rtrack_network) (out.1), .val rBool (out.2)]) := ⟨fun out ho => by
 delta g_track_open at ho
 refine fn fun _ _ => ?_
 refine run 3 ?_
 refine s_pure rfl (.n rfl) rfl (e := .val (rPtrN rtrack_network) none) (fun z fr h s => ⟨_, rfl, nilptr_ok⟩) ?_
 refine run 6 ?_
 refine xcl ho ?_
 intro y1 hy1 ho
 show SOps ..
 refine run 2 ?_
 refine wct ho (fun hq2 ho => ?_) fun hq2 ho => ?_
 ·refine run 2 ?_
  refine s_pure rfl (.n rfl) rfl (e := .val (rPtrN rtrack_network) none) (fun z fr h s => ⟨_, rfl, nilptr_ok⟩) ?_
  exact w ho
 ·refine run 4 ?_
  refine s_mkmap (rInt .i64) MP126 rfl (.n rfl) rfl rfl ?_
  intro b3
  refine s_st (st_rawmap (n := 18) rfl) ?_
  refine s_build (R := rtrack_networkN12) Bq178 (.n rfl) rfl rfl rfl (.p (.t rfl) rfl (.z (fun _ => znilN) (.p (.t rfl) rfl (.n rfl)))) ?_
  refine xbo fun b4 => ?_
  refine s_st (st_nilcell (q := 2) 0 rfl rfl rfl) ?_
  refine s_st (st_nilrow (rInt .i64)) ?_
  refine s_st (st_rawcell (q := 3) 1 rfl rfl rfl) ?_
  refine run 11 ?_
  obtain ⟨t82, ht82, ho⟩ := bnd ho
  refine wlp ht82 [1, 4, 22, 23] (fun s g => ([(24, vI (s.1))], [(.ptr b4 0, .box [.val (rSlice rANode) (p_0.1), .val (rSlice rRail) (p_0.2.1), .raw ((gh g 0)), .raw (.map b3)]), (.map b3, .mp rRailEnd (rInt .i64) (([] : (List (RailEnd × Int))))), ((gh g 0), .row (rInt .i64) (s.2))])) (fun b => (.exit 0, fun g => ([], [(.ptr b4 0, .box [.val (rSlice rANode) (p_0.1), .val (rSlice rRail) (p_0.2.1), .raw ((gh g 0)), .raw (.map b3)]), (.map b3, .mp rRailEnd (rInt .i64) (([] : (List (RailEnd × Int))))), ((gh g 0), .row (rInt .i64) (b))]))) [.nilslice] SEL (pk [1, 2, 0]) NE (fun s55 g56 _ ho => ?_) fun g83 => ?_
  ·refine run 5 ?_
   refine wct ho (fun hq57 ho => ?_) fun hq57 ho => ?_
   ·refine run 5 ?_
    obtain ⟨x58, hx58, ho⟩ := bnd ho
    refine run 2 ?_
    refine xal (zv := .agg [.int .i64 0, .int .i64 0, .nilslice, .int .i64 0, .int .i64 0]) (es := [vI (0), vI (0), .val (rSlice rSpot) ([]), vI (0), vI (0)]) (by kernel_rfl) fun b59 => ?_
    refine run 1 ?_
    refine s_st (st_freezeb (R := rRail) (a := x58) 0 [6] (cells_pair (cells_one rfl) (cells_pair (cells_one rfl) (cells_pair (cells_one rfl) (cells_pair (cells_one rfl) (cells_pair (cells_one rfl) cells_unit rfl) rfl) rfl) rfl) rfl) rfl rfl ⟨rfl, trivial⟩) ?_
    refine run 5 ?_
    refine xcl ho ?_
    intro y60 hy60 ho v61
    show SOps ..
    refine run 12 ?_
    obtain ⟨t78, ht78, ho⟩ := bnd ho
    refine wlp ht78 [1, 4, 7, 22, 23, 24] (fun s g => ([(8, vI (s.1)), (9, vI (s.2))], [(v61, .row rSpot (y60)), (.ptr b4 0, .box [.val (rSlice rANode) (p_0.1), .val (rSlice rRail) (p_0.2.1), .raw ((gh g56 0)), .raw (.map b3)]), (.map b3, .mp rRailEnd (rInt .i64) (([] : (List (RailEnd × Int))))), ((gh g56 0), .row (rInt .i64) (s55.2))])) (fun b => (.exit 2, fun g => ([(8, vI (b))], [(.ptr b4 0, .box [.val (rSlice rANode) (p_0.1), .val (rSlice rRail) (p_0.2.1), .raw ((gh g56 0)), .raw (.map b3)]), (.map b3, .mp rRailEnd (rInt .i64) (([] : (List (RailEnd × Int))))), ((gh g56 0), .row (rInt .i64) (s55.2))]))) [] SEL (pk [0, 1, 2, 3]) NE (fun s69 g70 _ ho => ?_) fun g79 => ?_
    ·refine run 8 ?_
     refine wct ho (fun hq71 ho => ?_) fun hq71 ho => ?_
     ·refine run 3 ?_
      refine r_draw [5, 9] (by kernel_rfl) ?_
      refine run 4 ?_
      obtain ⟨x75, hx75, ho⟩ := bnd ho
      refine run 4 ?_
      obtain ⟨x76, hx76, ho⟩ := bnd ho
      refine run 2 ?_
      refine xcl ho ?_
      intro y77 hy77 ho
      show SOps ..
      refine run 7 ?_
      cases ho; exact s_nil (lf [] [0, 1, 2, 3])
     ·cases ho; exact r_exit (lf [] [1, 2, 3])
    ·show SRun ..
     refine run 8 ?_
     obtain ⟨x80, hx80, ho⟩ := bnd ho
     refine xap fun v81 => ?_
     refine run 2 ?_
     refine s_storebo 1 0 (U26).sz rfl rfl (by exact Nat.le_of_ble_eq_true rfl) (.n rfl) rfl rfl (.t rfl) (.t rfl) (by rfl) ?_
     refine run 4 ?_
     cases ho; exact s_nil (lf [v81] [1, 2, 0])
   ·cases ho; exact r_exit (lf [(gh g56 0)] [0, 1, 2])
  ·show SRun ..
   refine run 9 ?_
   obtain ⟨t134, ht134, ho⟩ := bnd ho
   refine wlp ht134 [4, 61, 62] (fun s g => ([(63, vI (s.1))], [(.ptr b4 0, .box [.val (rSlice rANode) (p_0.1), .val (rSlice rRail) (p_0.2.1), .raw ((gh g83 0)), .raw (.map b3)]), (.map b3, .mp rRailEnd (rInt .i64) (s.2)), ((gh g83 0), .row (rInt .i64) (t82))])) (fun b => (.exit 4, fun g => ([], [(.ptr b4 0, .box [.val (rSlice rANode) (p_0.1), .val (rSlice rRail) (p_0.2.1), .raw ((gh g83 0)), .raw (.map b3)]), (.map b3, .mp rRailEnd (rInt .i64) (b)), ((gh g83 0), .row (rInt .i64) (t82))]))) [] SEL (pk [0, 1, 2]) NE (fun s116 g117 _ ho => ?_) fun g135 => ?_
   ·refine run 5 ?_
    refine wct ho (fun hq118 ho => ?_) fun hq118 ho => ?_
    ·refine run 5 ?_
     obtain ⟨x119, hx119, ho⟩ := bnd ho
     refine run 2 ?_
     refine xal (zv := .agg [.int .i64 0, .int .i64 0, .int .i64 0, .nilslice, .int .i64 0]) (es := [vI (0), vI (0), vI (0), .val (rSlice rRailEnd) ([]), vI (0)]) (by kernel_rfl) fun b120 => ?_
     refine run 1 ?_
     refine s_st (st_freezeb (R := rANode) (a := x119) 0 [11] (cells_pair (cells_pair (cells_one rfl) (cells_pair (cells_one rfl) cells_unit rfl) rfl) (cells_pair (cells_one rfl) (cells_pair (cells_one rfl) (cells_pair (cells_one rfl) cells_unit rfl) rfl) rfl) rfl) rfl rfl ⟨rfl, trivial⟩) ?_
     refine run 9 ?_
     obtain ⟨t132, ht132, ho⟩ := bnd ho
     refine wlp ht132 [4, 61, 62, 63, 68, 69] (fun s g => ([(70, vI (s.1))], [(.ptr b4 0, .box [.val (rSlice rANode) (p_0.1), .val (rSlice rRail) (p_0.2.1), .raw ((gh g83 0)), .raw (.map b3)]), (.map b3, .mp rRailEnd (rInt .i64) (s.2)), ((gh g83 0), .row (rInt .i64) (t82))])) (fun b => (.exit 6, fun g => ([], [(.ptr b4 0, .box [.val (rSlice rANode) (p_0.1), .val (rSlice rRail) (p_0.2.1), .raw ((gh g83 0)), .raw (.map b3)]), (.map b3, .mp rRailEnd (rInt .i64) (b)), ((gh g83 0), .row (rInt .i64) (t82))]))) [] SEL (pk [0, 1, 2]) NE (fun s127 g128 _ ho => ?_) fun g133 => ?_
     ·refine run 5 ?_
      refine wct ho (fun hq129 ho => ?_) fun hq129 ho => ?_
      ·refine run 6 ?_
       obtain ⟨x130, hx130, ho⟩ := bnd ho
       refine run 2 ?_
       refine xal (zv := .agg [.int .i64 0, .bool false]) (es := [vI (0), vB (false)]) (by kernel_rfl) fun b131 => ?_
       refine run 2 ?_
       refine s_st (st_freezeb (R := rRailEnd) (a := x130) 0 [13] (cells_pair (cells_one rfl) (cells_pair (cells_one rfl) cells_unit rfl) rfl) rfl rfl ⟨rfl, trivial⟩) ?_
       refine run 1 ?_
       refine r_draw [3] (by kernel_rfl) ?_
       refine run 6 ?_
       refine s_mapset 1 MP126 (.inl rfl) rfl (.n rfl) rfl (.t rfl) (.t rfl) (.t rfl) rfl ?_
       refine run 4 ?_
       cases ho; exact s_nil (lf [] [0, 1, 2])
      ·cases ho; exact r_exit (lf [] [0, 1, 2])
     ·show SRun ..
      refine run 3 ?_
      cases ho; exact s_nil (lf [] [0, 1, 2])
    ·cases ho; exact r_exit (lf [] [0, 1, 2])
   ·show SRun ..
    refine run 6 ?_
    cases ho
    refine r_st (st_freezemc 1 0 (q := 3) [] rfl rfl rfl rfl (by rfl) trivial) ?_
    refine r_st (st_freezec 1 0 (q := 2) [] rfl rfl rfl rfl (by rfl) trivial) ?_
    refine r_st (st_freezeb (R := rtrack_network) (a := ((p_0.1, p_0.2.1, ()), t82, t134, ())) 0 [4, 83, 2] (cells_pair (cells_pair (cells_one rfl) (cells_pair (cells_one rfl) cells_unit rfl) rfl) (cells_pair (cells_one rfl) (cells_pair (cells_one rfl) cells_unit rfl) rfl) rfl) rfl rfl ⟨rfl, rfl, rfl, trivial⟩) ?_
    refine r_st (st_optn (n := 2) rfl) ?_
    exact r_ret (ret_of (.inr rfl) (.v rfl (.v rfl .n)) (by decide))⟩
instance i57 {n_0 m_1} : FI ktab 57 (g_track_network_has n_0 m_1) [.val (rPtr rtrack_network) n_0, .val rAMove m_1] (fun out => [.val rBool (out)]) := ⟨fun out ho => by
 delta g_track_network_has at ho
 refine fn fun _ _ => ?_
 exact w ho⟩
instance i17 {p_0 rail_1} : FI ktab 17 (g_track_Length p_0 rail_1) [.val rPlan p_0, vI rail_1] (fun out => [.val (rInt .i64) (out.1), .val (rInt .i64) (out.2)]) := ⟨fun out ho => by
 delta g_track_Length at ho
 refine fn fun _ _ => ?_
 refine run 9 ?_
 refine xcl ho ?_
 intro y1 hy1 ho
 show SOps ..
 refine run 8 ?_
 obtain ⟨c5, hc5, ho⟩ := bnd ho
 refine wcx c5 [1, 6] (fun t => (.normal, fun _ => ([(21, vB (t))], []))) SEL ?_ fun _ => ?_
 ·have ho := hc5
  refine run 4 ?_
  refine wbr ho (fun hb6 ho => ?_) fun hb6 ho => ?_
  ·exact w ho
  ·refine run 3 ?_
   obtain ⟨p7, hp7, ho⟩ := bnd ho
   refine s_st (st_someptr (n := 16) hp7 rfl) ?_
   exact w ho
 ·show SRun ..
  refine wct ho (fun hq9 ho => ?_) fun hq9 ho => ?_
  ·exact w ho
  ·refine run 4 ?_
   obtain ⟨p10, hp10, ho⟩ := bnd ho
   refine s_st (st_someptr (n := 22) hp10 rfl) ?_
   exact w ho⟩
instance i19 {node_0 p_1} : FI ktab 19 (g_depot_Tracks_1 node_0 p_1) [vI node_0, .val (rPtr rPlan) p_1] (fun out => [.val rBool (out)]) := ⟨fun out ho => by
 delta g_depot_Tracks_1 at ho
 refine fn fun _ _ => ?_
 exact w ho⟩
instance i6 {p_0 p_1} : FI ktab 6 (g_depot_Tracks p_0 p_1) [.val rPlan p_0, .val (rSlice (rInt .i64)) p_1] (fun out => [.row rStableTrack (out.1), .val (rInt .i64) (out.2)]) := ⟨fun out ho => by
 delta g_depot_Tracks at ho
 refine fn fun _ _ => ?_
 refine run 3 ?_
 refine s_st (st_nilrow rStableTrack) ?_
 refine s_assign (.n rfl) rfl rfl .nilr ?_
 refine run 4 ?_
 obtain ⟨c4, hc4, ho⟩ := bnd ho
 refine wcx c4 [1, 2] (fun t => (.normal, fun _ => ([(20, vB (t))], [(.nilslice, .row rStableTrack ([]))]))) SEL ?_ fun _ => ?_
 ·have ho := hc4
  refine run 2 ?_
  refine xcl ho ?_
  intro y5 hy5 ho
  show SOps ..
  refine run 2 ?_
  refine wbr ho (fun hb6 ho => ?_) fun hb6 ho => ?_
  ·refine run 5 ?_
   cases ho; exact s_nil (lf [] [0])
  ·refine run 2 ?_
   refine xcl ho ?_
   intro y7 hy7 ho
   show SOps ..
   refine run 2 ?_
   cases ho; exact s_nil (lf [] [0])
 ·show SRun ..
  refine wct ho (fun hq8 ho => ?_) fun hq8 ho => ?_
  ·refine run 2 ?_
   refine s_st (st_nilrow rStableTrack) ?_
   refine s_assign (.n rfl) rfl rfl .nilr ?_
   exact w ho
  ·refine run 3 ?_
   refine s_st (st_nilrow rStableTrack) ?_
   refine s_assign (.n rfl) rfl rfl .nilr ?_
   refine run 9 ?_
   obtain ⟨t69, ht69, ho⟩ := bnd ho
   refine wlp ht69 [1, 2, 21, 22] (fun s g => ([(6, .raw ((gh g 0))), (23, vI (s.2))], [((gh g 0), .row rStableTrack (s.1))])) (altX (fun b => (.exit 0, fun g => ([(6, .raw ((gh g 0)))], [((gh g 0), .row rStableTrack (b))]))) (fun b => (.ret, fun g => ([(4, .raw ((gh g 0))), (5, vI (b.2))], [((gh g 0), .row rStableTrack (b.1))])))) [.nilslice] SEL (pk [0]) NE (fun s38 g39 _ ho => ?_) fun g70 => ?_
   ·refine run 5 ?_
    refine wct ho (fun hq40 ho => ?_) fun hq40 ho => ?_
    ·refine run 6 ?_
     obtain ⟨x41, hx41, ho⟩ := bnd ho
     refine run 9 ?_
     refine xcl ho ?_
     intro y42 hy42 ho
     show SOps ..
     refine run 12 ?_
     refine wbr ho (fun hb46 ho => ?_) fun hb46 ho => ?_
     ·refine run 7 ?_
      refine r_cond (.t rfl) (fun _ => ?_) (fun hq => by cases hq)
      refine run 2 ?_
      refine s_st (st_nilrow rStableTrack) ?_
      refine s_assign (.n rfl) rfl rfl .nilr ?_
      refine run 2 ?_
      cases ho; exact r_ret (lf [.nilslice] [0])
     ·refine run 2 ?_
      obtain ⟨x48, hx48, ho⟩ := bnd ho
      refine run 2 ?_
      refine xcl ho ?_
      intro y49 hy49 ho
      show SOps ..
      refine run 2 ?_
      refine wct ho (fun hq50 ho => ?_) fun hq50 ho => ?_
      ·refine run 2 ?_
       refine s_st (st_nilrow rStableTrack) ?_
       refine s_assign (.n rfl) rfl rfl .nilr ?_
       refine run 2 ?_
       cases ho; exact r_ret (lf [.nilslice] [0])
      ·refine run 3 ?_
       refine s_mkfn (X := (Int)) (Y := (Bool)) (fun x => [.val (rInt .i64) (x)]) (fun y => [.val rBool (y)]) (f := (fun x => g_depot_Tracks_1 x p_0)) (fun x y hf => i19.ok _ hf) rfl (.n rfl) rfl rfl .n (.c (.t rfl) .n) ?_
       refine run 10 ?_
       obtain ⟨x60, hx60, ho⟩ := bnd ho
       refine run 3 ?_
       obtain ⟨y61, hy61, ho⟩ := bnd ho
       refine s_callv (X := (Int)) (Y := (Bool)) (f := (fun x => g_depot_Tracks_1 x p_0)) (x := x60.1) hy61 (.n rfl) rfl rfl rfl (.t rfl) (.c (.t rfl) .n) ?_
       show SOps ..
       refine run 2 ?_
       refine wbr ho (fun hb62 ho => ?_) fun hb62 ho => ?_
       ·refine run 4 ?_
        obtain ⟨x63, hx63, ho⟩ := bnd ho
        refine run 3 ?_
        obtain ⟨y64, hy64, ho⟩ := bnd ho
        refine s_callv (X := (Int)) (Y := (Bool)) (f := (fun x => g_depot_Tracks_1 x p_0)) (x := x63.2.1) hy64 (.g rfl rfl (gt1 hb62)) rfl rfl rfl (.t rfl) (.c (.t rfl) .n) ?_
        show SOps ..
        refine run 4 ?_
        obtain ⟨x65, hx65, ho⟩ := bnd ho
        refine xap fun v66 => ?_
        refine run 5 ?_
        cases ho; exact s_nil (lf [v66] [0])
       ·refine run 12 ?_
        obtain ⟨x67, hx67, ho⟩ := bnd ho
        refine xap fun v68 => ?_
        refine run 5 ?_
        cases ho; exact s_nil (lf [v68] [0])
    ·cases ho; exact r_exit (lf [(gh g39 0)] [0])
   ·rcases t69 with b71 | b72
    ·have ho := alt_l ho
     show SRun ..
     exact w ho
    ·have ho := alt_r ho
     cases ho; exact id (ret_of (.inr rfl) (.r 0 rfl rfl (.v rfl .n)) (by decide))⟩
instance i20 {n_0 low_1 high_2} : FI ktab 20 (g_ref01_in n_0 low_1 high_2) [vI n_0, vI low_1, vI high_2] (fun out => [.val rBool (out)]) := ⟨fun out ho => by
 delta g_ref01_in at ho
 refine fn fun _ _ => ?_
 refine run 5 ?_
 obtain ⟨c2, hc2, ho⟩ := bnd ho
 refine wcx c2 [] (fun t => (.normal, fun _ => ([(6, vB (t))], []))) SEL ?_ fun _ => ?_
 ·exact w hc2
 ·show SRun ..
  cases ho; exact r_ret (ret_of (.inr rfl) (.v rfl .n) (by decide))⟩
instance i21 {s_0} : FI ktab 21 (g_ref01_spot s_0) [.val rSpot s_0] (fun out => [.val rBool (out)]) := ⟨fun out ho => by
 delta g_ref01_spot at ho
 refine fn fun _ _ => ?_
 refine run 6 ?_
 obtain ⟨c4, hc4, ho⟩ := bnd ho
 refine wcx c4 [] (fun t => (.normal, fun _ => ([(2, vB (t))], []))) SEL ?_ fun _ => ?_
 ·exact w hc4
 ·show SRun ..
  cases ho; exact r_ret (ret_of (.inr rfl) (.v rfl .n) (by decide))⟩
instance i22 {k_0} : FI ktab 22 (g_ref01_ends k_0) [vI k_0] (fun out => [.val (rInt .i64) (out)]) := ⟨fun out ho => by
 delta g_ref01_ends at ho
 refine fn fun _ _ => ?_
 exact w ho⟩
instance i23 {p_0 rail_1} : FI ktab 23 (g_ref01_Line p_0 rail_1) [.val rPlan p_0, vI rail_1] (fun out => [.row rSpot (out)]) := ⟨fun out ho => by
 delta g_ref01_Line at ho
 refine fn fun _ _ => ?_
 refine run 3 ?_
 refine s_st (st_nilrow rSpot) ?_
 refine s_assign (.n rfl) rfl rfl .nilr ?_
 refine run 6 ?_
 obtain ⟨x1, hx1, ho⟩ := bnd ho
 refine run 2 ?_
 refine xal (zv := .agg [.int .i64 0, .int .i64 0, .nilslice, .int .i64 0, .int .i64 0]) (es := [vI (0), vI (0), .val (rSlice rSpot) ([]), vI (0), vI (0)]) (by kernel_rfl) fun b2 => ?_
 refine run 1 ?_
 refine s_st (st_freezeb (R := rRail) (a := x1) 0 [5] (cells_pair (cells_one rfl) (cells_pair (cells_one rfl) (cells_pair (cells_one rfl) (cells_pair (cells_one rfl) (cells_pair (cells_one rfl) cells_unit rfl) rfl) rfl) rfl) rfl) rfl rfl ⟨rfl, trivial⟩) ?_
 refine run 7 ?_
 obtain ⟨x3, hx3, ho⟩ := bnd ho
 refine run 3 ?_
 refine s_bso (R := rSpot) S73 Y38 (.n rfl) rfl rfl (.c (.t rfl) .n) rfl (by decide) ?_
 intro v4
 refine run 7 ?_
 obtain ⟨x5, hx5, ho⟩ := bnd ho
 refine xap fun v6 => ?_
 refine run 9 ?_
 obtain ⟨x7, hx7, ho⟩ := bnd ho
 refine run 4 ?_
 obtain ⟨x8, hx8, ho⟩ := bnd ho
 refine xap fun v9 => ?_
 exact w ho⟩
instance i59 {n_0} : FI ktab 59 (g_ref01_Root n_0) [vI n_0] (fun out => [.val (rInt .i64) (out)]) := ⟨fun out ho => by
 delta g_ref01_Root at ho
 refine fn fun _ _ => ?_
 refine run 11 ?_
 obtain ⟨t9, ht9, ho⟩ := bnd ho
 refine wlp ht9 [0] (fun s g => ([(3, vI (s.1)), (4, vI (s.2))], [])) (fun b => (.exit 0, fun g => ([(3, vI (b))], []))) [] SEL (pk []) NE (fun s4 g5 _ ho => ?_) fun g10 => ?_
 ·exact w ho
 ·show SRun ..
  exact w ho⟩
instance i24 {a_0 b_1} : FI ktab 24 (g_ref01_Far a_0 b_1) [.val rSpot a_0, .val rSpot b_1] (fun out => [.val (rInt .i64) (out)]) := ⟨fun out ho => by
 delta g_ref01_Far at ho
 refine fn fun _ _ => ?_
 exact w ho⟩
instance i25 {p_0 e_1} : FI ktab 25 (g_ref01_at p_0 e_1) [.val rPlan p_0, .val rRailEnd e_1] (fun out => [.val (rInt .i64) (out)]) := ⟨fun out ho => by
 delta g_ref01_at at ho
 refine fn fun _ _ => ?_
 exact w ho⟩
instance i7 {p_0} : FI ktab 7 (g_ref01_Valid p_0) [.val rPlan p_0] (fun out => [.val rBool (out)]) := ⟨fun out ho => by
 delta g_ref01_Valid at ho
 refine fn fun _ _ => ?_
 refine run 7 ?_
 obtain ⟨c4, hc4, ho⟩ := bnd ho
 refine wcx c4 [1] (fun t => (.normal, fun _ => ([(27, vB (t))], []))) SEL ?_ fun _ => ?_
 ·exact w hc4
 ·show SRun ..
  refine wct ho (fun hq8 ho => ?_) fun hq8 ho => ?_
  ·exact w ho
  ·refine run 7 ?_
   obtain ⟨t161, ht161, ho⟩ := bnd ho
   refine wlp ht161 [1] (fun s g => ([(3, vI (s))], [])) (altX (fun b => (.exit 0, fun g => ([], []))) (fun b => (.ret, fun g => ([(2, vB (b))], [])))) [] SEL (pk []) NE (fun s84 g85 _ ho => ?_) fun g162 => ?_
   ·refine run 9 ?_
    refine wct ho (fun hq86 ho => ?_) fun hq86 ho => ?_
    ·refine run 8 ?_
     obtain ⟨x87, hx87, ho⟩ := bnd ho
     refine run 2 ?_
     refine xal (zv := .agg [.int .i64 0, .int .i64 0, .int .i64 0, .nilslice, .int .i64 0]) (es := [vI (0), vI (0), vI (0), .val (rSlice rRailEnd) ([]), vI (0)]) (by kernel_rfl) fun b88 => ?_
     refine run 1 ?_
     refine s_st (st_freezeb (R := rANode) (a := x87) 0 [4] (cells_pair (cells_pair (cells_one rfl) (cells_pair (cells_one rfl) cells_unit rfl) rfl) (cells_pair (cells_one rfl) (cells_pair (cells_one rfl) (cells_pair (cells_one rfl) cells_unit rfl) rfl) rfl) rfl) rfl rfl ⟨rfl, trivial⟩) ?_
     refine run 15 ?_
     refine wbr ho (fun hb90 ho => ?_) fun hb90 ho => ?_
     ·refine run 5 ?_
      refine r_cond (.t rfl) (fun _ => ?_) (fun hq => by cases hq)
      refine run 3 ?_
      refine xcl ho ?_
      intro y92 hy92 ho
      show SOps ..
      refine run 6 ?_
      refine xcl ho ?_
      intro y105 hy105 ho
      show SOps ..
      refine run 2 ?_
      refine wbr ho (fun hb106 ho => ?_) fun hb106 ho => ?_
      ·refine run 19 ?_
       refine r_cond (.t rfl) (fun _ => ?_) (fun hq => by cases hq)
       exact w ho
      ·refine run 2 ?_
       refine xcl ho ?_
       intro y108 hy108 ho
       show SOps ..
       refine run 3 ?_
       refine wbr ho (fun hb109 ho => ?_) fun hb109 ho => ?_
       ·refine run 13 ?_
        refine r_cond (.t rfl) (fun _ => ?_) (fun hq => by cases hq)
        exact w ho
       ·refine run 5 ?_
        refine xcl ho ?_
        intro y111 hy111 ho
        show SOps ..
        refine run 3 ?_
        refine wbr ho (fun hb112 ho => ?_) fun hb112 ho => ?_
        ·refine run 4 ?_
         refine r_cond (.t rfl) (fun _ => ?_) (fun hq => by cases hq)
         exact w ho
        ·exact w ho
     ·refine run 5 ?_
      refine wct ho (fun hq115 ho => ?_) fun hq115 ho => ?_
      ·refine run 3 ?_
       refine xcl ho ?_
       intro y116 hy116 ho
       show SOps ..
       refine run 6 ?_
       refine xcl ho ?_
       intro y129 hy129 ho
       show SOps ..
       refine run 2 ?_
       refine wbr ho (fun hb130 ho => ?_) fun hb130 ho => ?_
       ·refine run 19 ?_
        refine r_cond (.t rfl) (fun _ => ?_) (fun hq => by cases hq)
        exact w ho
       ·refine run 2 ?_
        refine xcl ho ?_
        intro y132 hy132 ho
        show SOps ..
        refine run 3 ?_
        refine wbr ho (fun hb133 ho => ?_) fun hb133 ho => ?_
        ·refine run 13 ?_
         refine r_cond (.t rfl) (fun _ => ?_) (fun hq => by cases hq)
         exact w ho
        ·refine run 5 ?_
         refine xcl ho ?_
         intro y135 hy135 ho
         show SOps ..
         refine run 3 ?_
         refine wbr ho (fun hb136 ho => ?_) fun hb136 ho => ?_
         ·refine run 4 ?_
          refine r_cond (.t rfl) (fun _ => ?_) (fun hq => by cases hq)
          exact w ho
         ·exact w ho
      ·refine run 5 ?_
       refine xcl ho ?_
       intro y151 hy151 ho
       show SOps ..
       refine run 2 ?_
       refine wbr ho (fun hb152 ho => ?_) fun hb152 ho => ?_
       ·refine run 19 ?_
        refine r_cond (.t rfl) (fun _ => ?_) (fun hq => by cases hq)
        exact w ho
       ·refine run 2 ?_
        refine xcl ho ?_
        intro y154 hy154 ho
        show SOps ..
        refine run 3 ?_
        refine wbr ho (fun hb155 ho => ?_) fun hb155 ho => ?_
        ·refine run 13 ?_
         refine r_cond (.t rfl) (fun _ => ?_) (fun hq => by cases hq)
         exact w ho
        ·refine run 5 ?_
         refine xcl ho ?_
         intro y157 hy157 ho
         show SOps ..
         refine run 3 ?_
         refine wbr ho (fun hb158 ho => ?_) fun hb158 ho => ?_
         ·refine run 4 ?_
          refine r_cond (.t rfl) (fun _ => ?_) (fun hq => by cases hq)
          exact w ho
         ·exact w ho
    ·cases ho; exact r_exit (lf [] [])
   ·rcases t161 with b163 | b164
    ·have ho := alt_l ho
     show SRun ..
     refine run 6 ?_
     obtain ⟨t299, ht299, ho⟩ := bnd ho
     refine wlp ht299 [] (fun s g => ([(1, .val (rPtr rPlan) (p_0)), (6, vI (s))], [])) (altX (fun b => (.exit 2, fun g => ([(1, .val (rPtr rPlan) (p_0))], []))) (fun b => (.ret, fun g => ([(2, vB (b))], [])))) [] SEL (pk []) NE (fun s231 g232 _ ho => ?_) fun g300 => ?_
     ·refine run 9 ?_
      refine wct ho (fun hq233 ho => ?_) fun hq233 ho => ?_
      ·refine run 8 ?_
       obtain ⟨x234, hx234, ho⟩ := bnd ho
       refine run 2 ?_
       refine xal (zv := .agg [.int .i64 0, .int .i64 0, .nilslice, .int .i64 0, .int .i64 0]) (es := [vI (0), vI (0), .val (rSlice rSpot) ([]), vI (0), vI (0)]) (by kernel_rfl) fun b235 => ?_
       refine run 1 ?_
       refine s_st (st_freezeb (R := rRail) (a := x234) 0 [7] (cells_pair (cells_one rfl) (cells_pair (cells_one rfl) (cells_pair (cells_one rfl) (cells_pair (cells_one rfl) (cells_pair (cells_one rfl) cells_unit rfl) rfl) rfl) rfl) rfl) rfl rfl ⟨rfl, trivial⟩) ?_
       refine run 10 ?_
       refine xcl ho ?_
       intro y244 hy244 ho
       show SOps ..
       refine run 2 ?_
       refine wbr ho (fun hb245 ho => ?_) fun hb245 ho => ?_
       ·refine run 28 ?_
        refine r_cond (.t rfl) (fun _ => ?_) (fun hq => by cases hq)
        exact w ho
       ·refine run 6 ?_
        refine xcl ho ?_
        intro y247 hy247 ho
        show SOps ..
        refine run 3 ?_
        refine wbr ho (fun hb248 ho => ?_) fun hb248 ho => ?_
        ·refine run 18 ?_
         refine r_cond (.t rfl) (fun _ => ?_) (fun hq => by cases hq)
         exact w ho
        ·refine run 6 ?_
         refine wbr ho (fun hb250 ho => ?_) fun hb250 ho => ?_
         ·refine run 12 ?_
          refine r_cond (.t rfl) (fun _ => ?_) (fun hq => by cases hq)
          exact w ho
         ·refine run 2 ?_
          refine xcl ho ?_
          intro y252 hy252 ho
          show SOps ..
          refine run 3 ?_
          refine wbr ho (fun hb253 ho => ?_) fun hb253 ho => ?_
          ·refine run 6 ?_
           refine r_cond (.t rfl) (fun _ => ?_) (fun hq => by cases hq)
           exact w ho
          ·refine run 2 ?_
           refine xcl ho ?_
           intro y255 hy255 ho
           show SOps ..
           refine run 3 ?_
           refine wct ho (fun hq256 ho => ?_) fun hq256 ho => ?_
           ·exact w ho
           ·refine run 7 ?_
            obtain ⟨t267, ht267, ho⟩ := bnd ho
            refine wlp ht267 [1, 6, 7, 98, 99, 100, 101, 102, 103, 104, 105, 108, 109, 110, 111, 114, 115, 116, 117, 120, 121, 122, 123] (fun s g => ([(8, vI (s))], [])) (altX (fun b => (.exit 4, fun g => ([], []))) (fun b => (.ret, fun g => ([(2, vB (b))], [])))) [] SEL (pk []) NE (fun s261 g262 _ ho => ?_) fun g268 => ?_
            ·exact w ho
            ·rcases t267 with b269 | b270
             ·have ho := alt_l ho
              show SRun ..
              refine run 4 ?_
              refine xcl ho ?_
              intro y271 hy271 ho v272
              show SOps ..
              refine run 7 ?_
              obtain ⟨t295, ht295, ho⟩ := bnd ho
              refine wlp ht295 [1, 6, 9, 98, 99, 100, 101, 102, 103, 104, 105, 108, 109, 110, 111, 114, 115, 116, 117, 120, 121, 122, 123] (fun s g => ([(10, vI (s))], [(v272, .row rSpot (y271))])) (altX (fun b => (.exit 6, fun g => ([], []))) (fun b => (.ret, fun g => ([(2, vB (b))], [])))) [] SEL (pk [0]) NE (fun s283 g284 _ ho => ?_) fun g296 => ?_
              ·refine run 8 ?_
               refine wct ho (fun hq285 ho => ?_) fun hq285 ho => ?_
               ·refine run 4 ?_
                refine r_draw [4, 8] (by kernel_rfl) ?_
                refine run 3 ?_
                obtain ⟨x290, hx290, ho⟩ := bnd ho
                refine run 4 ?_
                obtain ⟨x291, hx291, ho⟩ := bnd ho
                refine run 2 ?_
                refine xcl ho ?_
                intro y292 hy292 ho
                show SOps ..
                refine xcl ho ?_
                intro y293 hy293 ho
                show SOps ..
                refine run 2 ?_
                refine wct ho (fun hq294 ho => ?_) fun hq294 ho => ?_
                ·exact w ho
                ·refine run 5 ?_
                 cases ho; exact s_nil (lf [] [0])
               ·cases ho; exact r_exit (lf [] [])
              ·rcases t295 with b297 | b298
               ·have ho := alt_l ho
                show SRun ..
                exact w ho
               ·have ho := alt_r ho
                cases ho; exact id (lf [] [])
             ·have ho := alt_r ho
              cases ho; exact id (lf [] [])
      ·cases ho; exact r_exit (lf [] [])
     ·rcases t299 with b301 | b302
      ·have ho := alt_l ho
       show SRun ..
       refine run 2 ?_
       refine s_st (st_nilrow rRailEnd) ?_
       refine s_assign (.n rfl) rfl rfl .nilr ?_
       refine run 7 ?_
       obtain ⟨t435, ht435, ho⟩ := bnd ho
       refine wlp ht435 [] (fun s g => ([(1, .val (rPtr rPlan) (p_0)), (11, .raw ((gh g 0))), (12, vI (s.2))], [((gh g 0), .row rRailEnd (s.1))])) (altX (fun b => (.exit 8, fun g => ([(1, .val (rPtr rPlan) (p_0)), (11, .raw ((gh g 0)))], [((gh g 0), .row rRailEnd (b))]))) (fun b => (.ret, fun g => ([(2, vB (b))], [])))) [.nilslice] SEL (pk [0]) NE (fun s368 g369 _ ho => ?_) fun g436 => ?_
       ·refine run 9 ?_
        refine wct ho (fun hq370 ho => ?_) fun hq370 ho => ?_
        ·refine run 8 ?_
         obtain ⟨t431, ht431, ho⟩ := bnd ho
         refine wlp ht431 [] (fun s g => ([(1, .val (rPtr rPlan) (p_0)), (11, .raw ((gh g 0))), (12, vI (s368.2)), (13, vI (s.2))], [((gh g 0), .row rRailEnd (s.1))])) (altX (fun b => (.exit 10, fun g => ([(1, .val (rPtr rPlan) (p_0)), (11, .raw ((gh g 0))), (12, vI (s368.2))], [((gh g 0), .row rRailEnd (b))]))) (fun b => (.ret, fun g => ([(2, vB (b))], [])))) [(gh g369 0)] SEL (pk [0]) NE (fun s400 g401 _ ho => ?_) fun g432 => ?_
         ·refine run 7 ?_
          obtain ⟨x402, hx402, ho⟩ := bnd ho
          refine run 6 ?_
          refine wct ho (fun hq403 ho => ?_) fun hq403 ho => ?_
          ·refine run 8 ?_
           obtain ⟨x404, hx404, ho⟩ := bnd ho
           refine run 4 ?_
           obtain ⟨x405, hx405, ho⟩ := bnd ho
           refine run 2 ?_
           refine xal (zv := .agg [.int .i64 0, .bool false]) (es := [vI (0), vB (false)]) (by kernel_rfl) fun b406 => ?_
           refine run 1 ?_
           refine s_st (st_freezeb (R := rRailEnd) (a := x405) 0 [14] (cells_pair (cells_one rfl) (cells_pair (cells_one rfl) cells_unit rfl) rfl) rfl rfl ⟨rfl, trivial⟩) ?_
           refine run 10 ?_
           refine xcl ho ?_
           intro y410 hy410 ho
           show SOps ..
           refine run 2 ?_
           refine wbr ho (fun hb411 ho => ?_) fun hb411 ho => ?_
           ·refine run 7 ?_
            refine r_cond (.t rfl) (fun _ => ?_) (fun hq => by cases hq)
            exact w ho
           ·refine run 2 ?_
            refine xcl ho ?_
            intro y413 hy413 ho
            show SOps ..
            refine run 4 ?_
            refine wct ho (fun hq414 ho => ?_) fun hq414 ho => ?_
            ·exact w ho
            ·refine run 7 ?_
             obtain ⟨t425, ht425, ho⟩ := bnd ho
             refine wlp ht425 [1, 11, 12, 13, 14, 196, 197, 198, 199, 200] (fun s g => ([(15, vI (s))], [((gh g401 0), .row rRailEnd (s400.1))])) (altX (fun b => (.exit 12, fun g => ([], [((gh g401 0), .row rRailEnd (s400.1))]))) (fun b => (.ret, fun g => ([(2, vB (b))], [])))) [] SEL (pk [0]) NE (fun s419 g420 _ ho => ?_) fun g426 => ?_
             ·refine run 8 ?_
              refine wct ho (fun hq421 ho => ?_) fun hq421 ho => ?_
              ·refine run 4 ?_
               refine r_draw [3] (by kernel_rfl) ?_
               refine run 2 ?_
               obtain ⟨x423, hx423, ho⟩ := bnd ho
               refine run 5 ?_
               refine wct ho (fun hq424 ho => ?_) fun hq424 ho => ?_
               ·exact w ho
               ·refine run 5 ?_
                cases ho; exact s_nil (lf [] [0])
              ·cases ho; exact r_exit (lf [] [0])
             ·rcases t425 with b427 | b428
              ·have ho := alt_l ho
               show SRun ..
               refine run 4 ?_
               obtain ⟨x429, hx429, ho⟩ := bnd ho
               refine xap fun v430 => ?_
               refine run 6 ?_
               cases ho; exact s_nil (lf [v430] [0])
              ·have ho := alt_r ho
               cases ho; exact id (lf [] [])
          ·cases ho; exact r_exit (lf [(gh g401 0)] [0])
         ·rcases t431 with b433 | b434
          ·have ho := alt_l ho
           show SRun ..
           refine run 4 ?_
           cases ho; exact s_nil (lf [(gh g432 0)] [0])
          ·have ho := alt_r ho
           cases ho; exact id (lf [] [])
        ·cases ho; exact r_exit (lf [(gh g369 0)] [0])
       ·rcases t435 with b437 | b438
        ·have ho := alt_l ho
         show SRun ..
         exact w ho
        ·have ho := alt_r ho
         cases ho; exact id (ret_of (.inr rfl) (.v rfl .n) (by decide))
      ·have ho := alt_r ho
       cases ho; exact id (ret_of (.inr rfl) (.v rfl .n) (by decide))
    ·have ho := alt_r ho
     cases ho; exact id (ret_of (.inr rfl) (.v rfl .n) (by decide))⟩
instance i26 {x_0 low_1 high_2} : FI ktab 26 (g_ref09_in x_0 low_1 high_2) [vI x_0, vI low_1, vI high_2] (fun out => [.val rBool (out)]) := ⟨fun out ho => by
 delta g_ref09_in at ho
 refine fn fun _ _ => ?_
 refine run 5 ?_
 obtain ⟨c2, hc2, ho⟩ := bnd ho
 refine wcx c2 [] (fun t => (.normal, fun _ => ([(6, vB (t))], []))) SEL ?_ fun _ => ?_
 ·exact w hc2
 ·show SRun ..
  cases ho; exact r_ret (ret_of (.inr rfl) (.v rfl .n) (by decide))⟩
instance i27 {l_0 x_1} : FI ktab 27 (g_ref09_has l_0 x_1) [.val (rSlice (rInt .i64)) l_0, vI x_1] (fun out => [.val rBool (out)]) := ⟨fun out ho => by
 delta g_ref09_has at ho
 refine fn fun _ _ => ?_
 refine run 10 ?_
 obtain ⟨t9, ht9, ho⟩ := bnd ho
 refine wlp ht9 [0, 1] (fun s g => ([(5, vI (s))], [])) (altX (fun b => (.exit 0, fun g => ([], []))) (fun b => (.ret, fun g => ([(4, vB (b))], [])))) [] SEL (pk []) NE (fun s4 g5 _ ho => ?_) fun g10 => ?_
 ·exact w ho
 ·rcases t9 with b11 | b12
  ·have ho := alt_l ho
   show SRun ..
   exact w ho
  ·have ho := alt_r ho
   cases ho; exact id (ret_of (.inr rfl) (.v rfl .n) (by decide))⟩
instance i8 {p_0 l_1} : FI ktab 8 (g_ref09_Rails p_0 l_1) [.val rPlan p_0, .val (rSlice (rInt .i64)) l_1] (fun out => [.val rBool (out)]) := ⟨fun out ho => by
 delta g_ref09_Rails at ho
 refine fn fun _ _ => ?_
 refine run 11 ?_
 obtain ⟨t45, ht45, ho⟩ := bnd ho
 refine wlp ht45 [1, 2] (fun s g => ([(5, vI (s))], [])) (altX (fun b => (.exit 0, fun g => ([], []))) (fun b => (.ret, fun g => ([(4, vB (b))], [])))) [] SEL (pk []) NE (fun s22 g23 _ ho => ?_) fun g46 => ?_
 ·refine run 8 ?_
  refine wct ho (fun hq24 ho => ?_) fun hq24 ho => ?_
  ·refine run 7 ?_
   obtain ⟨x37, hx37, ho⟩ := bnd ho
   refine run 6 ?_
   refine xcl ho ?_
   intro y38 hy38 ho
   show SOps ..
   refine run 2 ?_
   refine wbr ho (fun hb39 ho => ?_) fun hb39 ho => ?_
   ·refine run 10 ?_
    refine r_cond (.t rfl) (fun _ => ?_) (fun hq => by cases hq)
    exact w ho
   ·exact w ho
  ·cases ho; exact r_exit (lf [] [])
 ·rcases t45 with b47 | b48
  ·have ho := alt_l ho
   show SRun ..
   exact w ho
  ·have ho := alt_r ho
   cases ho; exact id (ret_of (.inr rfl) (.v rfl .n) (by decide))⟩
end Go.Ai.TabYtmnbnppfidghoaa

/- Written by program: walks through functions. -/
namespace Go.Ai.TabYtmnbnppfidghoaa
open Go Go.Ai Go.Ai.Sx Go.Proofs
attribute [local irreducible] SOps
set_option maxRecDepth 100000
set_option maxHeartbeats 4000000
instance i28 {p_0 rail_1} : FI ktab 28 (g_ref01_Length p_0 rail_1) [.val rPlan p_0, vI rail_1] (fun out => [.val (rInt .i64) (out)]) := ⟨fun out ho => by
 delta g_ref01_Length at ho
 refine fn fun _ _ => ?_
 refine run 9 ?_
 refine xcl ho ?_
 intro y1 hy1 ho v2
 show SOps ..
 refine run 12 ?_
 obtain ⟨t19, ht19, ho⟩ := bnd ho
 refine wlp ht19 [5] (fun s g => ([(6, vI (s.1)), (7, vI (s.2))], [(v2, .row rSpot (y1))])) (fun b => (.exit 0, fun g => ([(6, vI (b))], []))) [] SEL (pk [0]) NE (fun s10 g11 _ ho => ?_) fun g20 => ?_
 ·refine run 8 ?_
  refine wct ho (fun hq12 ho => ?_) fun hq12 ho => ?_
  ·refine run 3 ?_
   refine r_draw [5, 9] (by kernel_rfl) ?_
   refine run 4 ?_
   obtain ⟨x16, hx16, ho⟩ := bnd ho
   refine run 4 ?_
   obtain ⟨x17, hx17, ho⟩ := bnd ho
   refine run 2 ?_
   refine xcl ho ?_
   intro y18 hy18 ho
   show SOps ..
   refine run 7 ?_
   cases ho; exact s_nil (lf [] [0])
  ·cases ho; exact r_exit (lf [] [])
 ·show SRun ..
  exact w ho⟩
instance i9 {p_0 l_1} : FI ktab 9 (g_ref09_Tracks p_0 l_1) [.val rPlan p_0, .val (rSlice (rInt .i64)) l_1] (fun out => [.row rStableTrack (out)]) := ⟨fun out ho => by
 delta g_ref09_Tracks at ho
 refine fn fun _ _ => ?_
 refine run 3 ?_
 refine s_st (st_nilrow rStableTrack) ?_
 refine s_assign (.n rfl) rfl rfl .nilr ?_
 refine run 3 ?_
 refine s_st (st_nilrow rStableTrack) ?_
 refine s_assign (.n rfl) rfl rfl .nilr ?_
 refine run 7 ?_
 obtain ⟨t61, ht61, ho⟩ := bnd ho
 refine wlp ht61 [1, 2] (fun s g => ([(5, .raw ((gh g 0))), (6, vI (s.2))], [((gh g 0), .row rStableTrack (s.1))])) (fun b => (.exit 0, fun g => ([(5, .raw ((gh g 0)))], [((gh g 0), .row rStableTrack (b))]))) [.nilslice] SEL (pk [0]) NE (fun s30 g31 _ ho => ?_) fun g62 => ?_
 ·refine run 8 ?_
  refine wct ho (fun hq32 ho => ?_) fun hq32 ho => ?_
  ·refine run 9 ?_
   obtain ⟨x36, hx36, ho⟩ := bnd ho
   refine run 2 ?_
   obtain ⟨x37, hx37, ho⟩ := bnd ho
   refine run 2 ?_
   refine xal (zv := .agg [.int .i64 0, .int .i64 0, .nilslice, .int .i64 0, .int .i64 0]) (es := [vI (0), vI (0), .val (rSlice rSpot) ([]), vI (0), vI (0)]) (by kernel_rfl) fun b38 => ?_
   refine run 1 ?_
   refine s_st (st_freezeb (R := rRail) (a := x37) 0 [7] (cells_pair (cells_one rfl) (cells_pair (cells_one rfl) (cells_pair (cells_one rfl) (cells_pair (cells_one rfl) (cells_pair (cells_one rfl) cells_unit rfl) rfl) rfl) rfl) rfl) rfl rfl ⟨rfl, trivial⟩) ?_
   refine run 7 ?_
   obtain ⟨x42, hx42, ho⟩ := bnd ho
   refine run 5 ?_
   refine wbr ho (fun hb43 ho => ?_) fun hb43 ho => ?_
   ·refine run 4 ?_
    obtain ⟨x44, hx44, ho⟩ := bnd ho
    refine run 12 ?_
    obtain ⟨x49, hx49, ho⟩ := bnd ho
    refine run 2 ?_
    refine xcl ho ?_
    intro y50 hy50 ho
    show SOps ..
    refine run 4 ?_
    obtain ⟨x51, hx51, ho⟩ := bnd ho
    refine xap fun v52 => ?_
    refine run 6 ?_
    cases ho; exact s_nil (lf [v52] [0])
   ·refine run 16 ?_
    obtain ⟨x57, hx57, ho⟩ := bnd ho
    refine run 2 ?_
    refine xcl ho ?_
    intro y58 hy58 ho
    show SOps ..
    refine run 4 ?_
    obtain ⟨x59, hx59, ho⟩ := bnd ho
    refine xap fun v60 => ?_
    refine run 6 ?_
    cases ho; exact s_nil (lf [v60] [0])
  ·cases ho; exact r_exit (lf [(gh g31 0)] [0])
 ·show SRun ..
  exact w ho⟩
instance i3 {p_0 p_1} : FI ktab 3 (g_law09_DepotTracks p_0 p_1) [.val rPlan p_0, .val (rSlice (rInt .i64)) p_1] (fun out => [.val rBool (out)]) := ⟨fun out ho => by
 delta g_law09_DepotTracks at ho
 refine fn fun _ _ => ?_
 refine run 7 ?_
 obtain ⟨c3, hc3, ho⟩ := bnd ho
 refine wcx c3 [1, 2] (fun t => (.normal, fun _ => ([(16, vB (t))], []))) SEL ?_ fun _ => ?_
 ·exact w hc3
 ·show SRun ..
  refine wct ho (fun hq6 ho => ?_) fun hq6 ho => ?_
  ·refine run 2 ?_
   refine s_const (v := .bool true) (e := .val rBool true) rfl rfl known_te (.n rfl) rfl rfl rfl .f rfl ?_
   exact w ho
  ·refine run 5 ?_
   refine xcl ho ?_
   intro y7 hy7 ho v8
   show SOps ..
   refine run 8 ?_
   obtain ⟨c12, hc12, ho⟩ := bnd ho
   refine wcx c12 [1, 2, 5, 6] (fun t => (.normal, fun _ => ([(32, vB (t))], [(v8, .row rStableTrack (y7.1))]))) SEL ?_ fun _ => ?_
   ·have ho := hc12
    refine run 2 ?_
    refine xcl ho ?_
    intro y13 hy13 ho
    show SOps ..
    refine run 2 ?_
    refine wbr ho (fun hb14 ho => ?_) fun hb14 ho => ?_
    ·refine run 5 ?_
     cases ho; exact s_nil (lf [] [0])
    ·refine run 2 ?_
     refine xcl ho ?_
     intro y15 hy15 ho
     show SOps ..
     refine run 2 ?_
     cases ho; exact s_nil (lf [] [0])
   ·show SRun ..
    refine wct ho (fun hq16 ho => ?_) fun hq16 ho => ?_
    ·refine run 1 ?_
     obtain ⟨c19, hc19, ho⟩ := bnd ho
     refine wcx c19 [] (fun t => (.normal, fun _ => ([(4, vB (t))], [(v8, .row rStableTrack (y7.1))]))) SEL ?_ fun _ => ?_
     ·have ho := hc19
      refine run 4 ?_
      refine wbr ho (fun hb20 ho => ?_) fun hb20 ho => ?_
      ·refine run 5 ?_
       refine wbr ho (fun hb21 ho => ?_) fun hb21 ho => ?_
       ·refine s_const (v := .bool true) (e := .val rBool true) rfl rfl known_te (.g rfl rfl (gt1 hb21)) rfl rfl rfl .f rfl ?_
        refine run 2 ?_
        cases ho; exact s_nil (lf [] [0])
       ·refine run 3 ?_
        cases ho; exact s_nil (lf [] [0])
      ·refine run 8 ?_
       cases ho; exact s_nil (lf [] [0])
     ·show SRun ..
      cases ho; exact r_ret (ret_of (.inr rfl) (.v rfl .n) (by decide))
    ·refine run 5 ?_
     refine xcl ho ?_
     intro y22 hy22 ho v23
     show SOps ..
     refine run 4 ?_
     obtain ⟨c25, hc25, ho⟩ := bnd ho
     refine wcx c25 [5, 7] (fun t => (.normal, fun _ => ([(54, vB (t))], [(v23, .row rStableTrack (y22)), (v8, .row rStableTrack (y7.1))]))) SEL ?_ fun _ => ?_
     ·have ho := hc25
      refine run 4 ?_
      refine wbr ho (fun hb26 ho => ?_) fun hb26 ho => ?_
      ·refine run 6 ?_
       cases ho; exact s_nil (lf [] [0, 1])
      ·refine run 6 ?_
       cases ho; exact s_nil (lf [] [0, 1])
     ·show SRun ..
      refine wct ho (fun hq27 ho => ?_) fun hq27 ho => ?_
      ·exact w ho
      ·refine run 7 ?_
       obtain ⟨t42, ht42, ho⟩ := bnd ho
       refine wlp ht42 [5, 7] (fun s g => ([(8, vI (s))], [(v23, .row rStableTrack (y22)), (v8, .row rStableTrack (y7.1))])) (altX (fun b => (.exit 0, fun g => ([], []))) (fun b => (.ret, fun g => ([(4, vB (b))], [])))) [] SEL (pk [0, 1]) NE (fun s34 g35 _ ho => ?_) fun g43 => ?_
       ·refine run 8 ?_
        refine wct ho (fun hq36 ho => ?_) fun hq36 ho => ?_
        ·refine run 4 ?_
         refine r_draw [3, 7] (by kernel_rfl) ?_
         refine run 2 ?_
         obtain ⟨x39, hx39, ho⟩ := bnd ho
         refine run 4 ?_
         obtain ⟨x40, hx40, ho⟩ := bnd ho
         refine run 4 ?_
         refine wct ho (fun hq41 ho => ?_) fun hq41 ho => ?_
         ·exact w ho
         ·refine run 5 ?_
          cases ho; exact s_nil (lf [] [0, 1])
        ·cases ho; exact r_exit (lf [] [])
       ·rcases t42 with b44 | b45
        ·have ho := alt_l ho
         show SRun ..
         refine run 2 ?_
         refine s_const (v := .bool true) (e := .val rBool true) rfl rfl known_te (.n rfl) rfl rfl rfl .f rfl ?_
         exact w ho
        ·have ho := alt_r ho
         cases ho; exact id (ret_of (.inr rfl) (.v rfl .n) (by decide))⟩
end Go.Ai.TabYtmnbnppfidghoaa

/- The statement DepotTracks holds, for every input; no condition. -/
namespace Go.Proofs.Ytmnbnppfidghoaa
open Go Go.Ai Go.Ai.Sx Go.Ai.TabYtmnbnppfidghoaa

def aDepotTracks : ARep (Plan × (List Int) × Unit) := aCons rPlan (aCons (rSlice (rInt .i64)) aNil)
theorem oaDepotTracks : OpensA Try.prog [25, 26] aDepotTracks := opensA_cons o25 (by kernel_rfl) (opensA_cons o26 (by kernel_rfl) opensA_nil)
theorem nodesIn {z : Store} {vs : List AVal} {x : Plan × (List Int) × Unit} (h : aDepotTracks.rel z vs x) : x.1.1.length ≤ 9223372036854775807 := by
 obtain ⟨_, _, _, h1, _⟩ := h
 obtain ⟨_, _, _, ⟨_, _, h2⟩, _⟩ := h1.rel
 exact h2.1

set_option maxRecDepth 100000 in
theorem tracks_holds : Rows.DepotTracksSaid :=
 OpenClaim.holds_of_wide 3 Try.f3 rfl rfl rfl rfl rfl rfl rfl ⟨rfl, rfl, rfl, rfl, rfl⟩ rfl rfl rfl rfl rfl (by kernel_rfl) Try.func3 (by kernel_rfl)
  (of_decide_eq_true (by kernel_rfl)) (by unfold Func.isWrapper; first | (rw [if_pos (by decide +kernel)]; kernel_rfl) | (rw [if_neg (by decide +kernel)]; exact ⟨rfl, rfl⟩))
  (fun os started H enc _ => by
   show ReturnsInHanded {} Try.checked os 3 .any (Rows.depotTracksSpec.pre6 enc Try.prog Try.f3 Rows.depotTracksRow.domain false) (Rows.depotTracksSpec.post enc Try.prog Try.f3 false true false false)
   refine returnsInHanded_of_change_shaped (C := Try.checked) own started (by kernel_rfl) Try.func3
    (ChangeSpec.witness6 (enc := enc) (C := Try.checked) false ⟨#[], #[.agg #[.slice none 0 0, .slice none 0 0], .slice none 0 0], []⟩ 3 (by kernel_rfl) (by kernel_rfl) (by kernel_rfl) (by kernel_rfl)) ?_
   intro W base args ds gs before hval hW _ _ hsh _
   exact law_contract (C := Try.checked) ktab_ok laidOut rfl (tb := 4) (by kernel_rfl) Try.underlying4 (by rw [Try.params3]; decide +kernel) (fun H ds hd => by
    match ds, hd with
    | [_, _], _ => rfl) (by rw [Try.params3]; exact oaDepotTracks)
    (law_run (S := aDepotTracks) (aok_cons (aok_cons aok_nil)) (fun z vs x hx => i3.ok _ (law_tracks x.1 x.2.1 (nodesIn hx)))) (notEmpty hsh) hval hW)
end Go.Proofs.Ytmnbnppfidghoaa
