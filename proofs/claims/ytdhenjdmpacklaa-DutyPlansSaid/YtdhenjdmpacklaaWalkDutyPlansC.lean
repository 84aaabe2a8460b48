/- Written by program: walks through functions. -/
import Derived.Test.YtdhenjdmpacklaaWalkknownC
namespace Go.Ai.TabYtdhenjdmpacklaa
open Go Go.Ai Go.Ai.Sx Go.Proofs
attribute [local irreducible] SOps
set_option maxRecDepth 100000
set_option maxHeartbeats 4000000
instance i12 {t_0 y_1 most_2} : FI ktab 12 (g_law08_few t_0 y_1 most_2) [.val (rSlice rTask) t_0, .val rYard y_1, vI most_2] (fun out => [.val rBool (out)]) := ⟨fun out ho => by
 delta g_law08_few at ho
 refine fn fun _ _ => ?_
 refine run 7 ?_
 obtain ⟨c2, hc2, ho⟩ := bnd ho
 refine wcx c2 [0, 2, 4] (fun t => (.normal, fun _ => ([(17, vB (t))], []))) SEL ?_ fun _ => ?_
 ·exact w hc2
 ·show SRun ..
  refine wct ho (fun hq4 ho => ?_) fun hq4 ho => ?_
  ·exact w ho
  ·refine run 7 ?_
   obtain ⟨t13, ht13, ho⟩ := bnd ho
   refine wlp ht13 [0, 2, 4] (fun s g => ([(7, vI (s))], [])) (altX (fun b => (.exit 0, fun g => ([], []))) (fun b => (.ret, fun g => ([(6, vB (b))], [])))) [] SEL (pk []) NE (fun s8 g9 _ ho => ?_) fun g14 => ?_
   ·exact w ho
   ·rcases t13 with b15 | b16
    ·have ho := alt_l ho
     show SRun ..
     refine run 1 ?_
     obtain ⟨c19, hc19, ho⟩ := bnd ho
     refine wcx c19 [] (fun t => (.normal, fun _ => ([(6, vB (t))], []))) SEL ?_ fun _ => ?_
     ·exact w hc19
     ·show SRun ..
      cases ho; exact r_ret (ret_of (.inr rfl) (.v rfl .n) (by decide))
    ·have ho := alt_r ho
     cases ho; exact id (ret_of (.inr rfl) (.v rfl .n) (by decide))⟩
instance i42 {x_0 low_1 high_2} : FI ktab 42 (g_ref08_in x_0 low_1 high_2) [vI x_0, vI low_1, vI high_2] (fun out => [.val rBool (out)]) := ⟨fun out ho => by
 delta g_ref08_in at ho
 refine fn fun _ _ => ?_
 refine run 5 ?_
 obtain ⟨c2, hc2, ho⟩ := bnd ho
 refine wcx c2 [] (fun t => (.normal, fun _ => ([(6, vB (t))], []))) SEL ?_ fun _ => ?_
 ·exact w hc2
 ·show SRun ..
  cases ho; exact r_ret (ret_of (.inr rfl) (.v rfl .n) (by decide))⟩
instance i15 {p_0 p_1} : FI ktab 15 (g_ref08_Fine p_0 p_1) [.val (rSlice rTask) p_0, .val rYard p_1] (fun out => [.val rBool (out)]) := ⟨fun out ho => by
 delta g_ref08_Fine at ho
 refine fn fun _ _ => ?_
 refine run 14 ?_
 obtain ⟨c6, hc6, ho⟩ := bnd ho
 refine wcx c6 [0, 3, 5] (fun t => (.normal, fun _ => ([(33, vB (t))], []))) SEL ?_ fun _ => ?_
 ·exact w hc6
 ·show SRun ..
  refine wct ho (fun hq12 ho => ?_) fun hq12 ho => ?_
  ·exact w ho
  ·refine run 7 ?_
   obtain ⟨t69, ht69, ho⟩ := bnd ho
   refine wlp ht69 [] (fun s g => ([(0, .val (rSlice rTask) (p_0)), (3, .val (rPtr rYard) (p_1)), (5, vI ((lenI p_1.2.2.1))), (6, vI (s))], [])) (altX (fun b => (.exit 0, fun g => ([(0, .val (rSlice rTask) (p_0)), (5, vI ((lenI p_1.2.2.1)))], []))) (fun b => (.ret, fun g => ([(4, vB (b))], [])))) [] SEL (pk []) NE (fun s40 g41 _ ho => ?_) fun g70 => ?_
   ·refine run 7 ?_
    refine wct ho (fun hq42 ho => ?_) fun hq42 ho => ?_
    ·refine run 9 ?_
     obtain ⟨x47, hx47, ho⟩ := bnd ho
     refine run 6 ?_
     refine wbr ho (fun hb48 ho => ?_) fun hb48 ho => ?_
     ·refine run 11 ?_
      refine r_cond (.t rfl) (fun _ => ?_) (fun hq => by cases hq)
      exact w ho
     ·refine run 3 ?_
      obtain ⟨x50, hx50, ho⟩ := bnd ho
      refine run 3 ?_
      obtain ⟨x51, hx51, ho⟩ := bnd ho
      refine run 5 ?_
      refine wct ho (fun hq52 ho => ?_) fun hq52 ho => ?_
      ·exact w ho
      ·refine run 6 ?_
       obtain ⟨t65, ht65, ho⟩ := bnd ho
       refine wlp ht65 [0, 3, 5, 6, 48, 49, 50, 51, 52, 53, 54, 55, 56] (fun s g => ([(7, vI (s))], [])) (altX (fun b => (.exit 2, fun g => ([], []))) (fun b => (.ret, fun g => ([(4, vB (b))], [])))) [] SEL (pk []) NE (fun s58 g59 _ ho => ?_) fun g66 => ?_
       ·exact w ho
       ·rcases t65 with b67 | b68
        ·have ho := alt_l ho
         show SRun ..
         exact w ho
        ·have ho := alt_r ho
         cases ho; exact id (lf [] [])
    ·cases ho; exact r_exit (lf [] [])
   ·rcases t69 with b71 | b72
    ·have ho := alt_l ho
     show SRun ..
     refine run 6 ?_
     obtain ⟨t133, ht133, ho⟩ := bnd ho
     refine wlp ht133 [0, 5] (fun s g => ([(8, vI (s))], [])) (altX (fun b => (.exit 4, fun g => ([], []))) (fun b => (.ret, fun g => ([(4, vB (b))], [])))) [] SEL (pk []) NE (fun s102 g103 _ ho => ?_) fun g134 => ?_
     ·refine run 8 ?_
      refine wct ho (fun hq104 ho => ?_) fun hq104 ho => ?_
      ·refine run 7 ?_
       obtain ⟨x105, hx105, ho⟩ := bnd ho
       refine run 2 ?_
       refine xal (zv := .agg [.int .i64 0, .int .i64 0, .int .i64 0, .int .i64 0]) (es := [vI (0), vI (0), vI (0), vI (0)]) (by kernel_rfl) fun b106 => ?_
       refine run 1 ?_
       refine s_st (st_freezeb (R := rTask) (a := x105) 0 [9] (cells_pair (cells_one rfl) (cells_pair (cells_one rfl) (cells_pair (cells_one rfl) (cells_pair (cells_one rfl) cells_unit rfl) rfl) rfl) rfl) rfl rfl ⟨rfl, trivial⟩) ?_
       refine run 7 ?_
       refine xcl ho ?_
       intro y117 hy117 ho
       show SOps ..
       refine run 2 ?_
       refine wbr ho (fun hb118 ho => ?_) fun hb118 ho => ?_
       ·refine run 40 ?_
        refine r_cond (.t rfl) (fun _ => ?_) (fun hq => by cases hq)
        exact w ho
       ·refine run 4 ?_
        refine xcl ho ?_
        intro y120 hy120 ho
        show SOps ..
        refine run 3 ?_
        refine wbr ho (fun hb121 ho => ?_) fun hb121 ho => ?_
        ·refine run 32 ?_
         refine r_cond (.t rfl) (fun _ => ?_) (fun hq => by cases hq)
         exact w ho
        ·refine run 5 ?_
         refine wbr ho (fun hb123 ho => ?_) fun hb123 ho => ?_
         ·refine run 27 ?_
          refine r_cond (.t rfl) (fun _ => ?_) (fun hq => by cases hq)
          exact w ho
         ·refine run 7 ?_
          refine wbr ho (fun hb125 ho => ?_) fun hb125 ho => ?_
          ·refine run 20 ?_
           refine r_cond (.t rfl) (fun _ => ?_) (fun hq => by cases hq)
           exact w ho
          ·refine run 5 ?_
           refine wbr ho (fun hb127 ho => ?_) fun hb127 ho => ?_
           ·refine run 15 ?_
            refine r_cond (.t rfl) (fun _ => ?_) (fun hq => by cases hq)
            exact w ho
           ·refine run 3 ?_
            refine wbr ho (fun hb129 ho => ?_) fun hb129 ho => ?_
            ·exact w ho
            ·refine run 12 ?_
             refine r_cond (.t rfl) (fun hq => by cases hq) (fun _ => ?_)
             exact w ho
      ·cases ho; exact r_exit (lf [] [])
     ·rcases t133 with b135 | b136
      ·have ho := alt_l ho
       show SRun ..
       exact w ho
      ·have ho := alt_r ho
       cases ho; exact id (ret_of (.inr rfl) (.v rfl .n) (by decide))
    ·have ho := alt_r ho
     cases ho; exact id (ret_of (.inr rfl) (.v rfl .n) (by decide))⟩
instance i31 {tasks_0 y_1 a_2 b_3} : FI ktab 31 (g_ref08_Follows tasks_0 y_1 a_2 b_3) [.val (rSlice rTask) tasks_0, .val rYard y_1, vI a_2, vI b_3] (fun out => [.val rBool (out)]) := ⟨fun out ho => by
 delta g_ref08_Follows at ho
 refine fn fun _ _ => ?_
 refine run 11 ?_
 obtain ⟨x1, hx1, ho⟩ := bnd ho
 refine run 3 ?_
 obtain ⟨x2, hx2, ho⟩ := bnd ho
 refine run 4 ?_
 obtain ⟨x3, hx3, ho⟩ := bnd ho
 refine run 3 ?_
 obtain ⟨x4, hx4, ho⟩ := bnd ho
 refine run 5 ?_
 obtain ⟨c9, hc9, ho⟩ := bnd ho
 refine wcx c9 [] (fun t => (.normal, fun _ => ([(8, vB (t))], []))) SEL ?_ fun _ => ?_
 ·exact w hc9
 ·show SRun ..
  cases ho; exact r_ret (ret_of (.inr rfl) (.v rfl .n) (by decide))⟩
instance i21 {cars_0} : FI ktab 21 (g_law08_plans cars_0) [.val (rSlice (rSlice (rInt .i64))) cars_0] (fun out => [.val rBool (out)]) := ⟨fun out ho => by
 delta g_law08_plans at ho
 refine fn fun _ _ => ?_
 refine run 10 ?_
 obtain ⟨t9, ht9, ho⟩ := bnd ho
 refine wlp ht9 [0] (fun s g => ([(3, vI (s))], [])) (altX (fun b => (.exit 0, fun g => ([], []))) (fun b => (.ret, fun g => ([(2, vB (b))], [])))) [] SEL (pk []) NE (fun s4 g5 _ ho => ?_) fun g10 => ?_
 ·exact w ho
 ·rcases t9 with b11 | b12
  ·have ho := alt_l ho
   show SRun ..
   exact w ho
  ·have ho := alt_r ho
   cases ho; exact id (ret_of (.inr rfl) (.v rfl .n) (by decide))⟩
instance i23 {p_0 p_1 p_2} : FI ktab 23 (g_ref08_Plan p_0 p_1 p_2) [.val (rSlice rTask) p_0, .val rYard p_1, .val (rSlice (rSlice (rInt .i64))) p_2] (fun out => [.val rBool (out)]) := ⟨fun out ho => by
 delta g_ref08_Plan at ho
 refine fn fun _ _ => ?_
 refine run 9 ?_
 obtain ⟨x1, hx1, ho⟩ := bnd ho
 refine xmk fun v2 => ?_
 refine run 12 ?_
 obtain ⟨t303, ht303, ho⟩ := bnd ho
 refine wlp ht303 [] (fun s g => ([(0, .val (rSlice rTask) (p_0)), (2, .val (rSlice (rSlice (rInt .i64))) (p_2)), (4, .val (rPtr rYard) (p_1)), (7, .raw v2), (8, vI (s.1)), (9, vI (s.2.1))], [(v2, .row rBool (s.2.2))])) (altX (fun b => (.exit 0, fun g => ([(0, .val (rSlice rTask) (p_0)), (8, vI (b.1))], []))) (fun b => (.ret, fun g => ([(6, vB (b))], [])))) [] SEL (pk [0]) NE (fun s202 g203 _ ho => ?_) fun g304 => ?_
 ·refine run 8 ?_
  refine wct ho (fun hq204 ho => ?_) fun hq204 ho => ?_
  ·refine run 8 ?_
   obtain ⟨x205, hx205, ho⟩ := bnd ho
   refine run 5 ?_
   refine wct ho (fun hq206 ho => ?_) fun hq206 ho => ?_
   ·exact w ho
   ·refine run 7 ?_
    obtain ⟨t287, ht287, ho⟩ := bnd ho
    refine wlp ht287 [0, 2, 4, 7, 9] (fun s g => ([(8, vI (s.1)), (10, vI (s.2.1))], [(v2, .row rBool (s.2.2))])) (altX (fun b => (.exit 2, fun g => ([(8, vI (b.1))], [(v2, .row rBool (b.2))]))) (fun b => (.ret, fun g => ([(6, vB (b.1))], [])))) [] SEL (pk [0]) NE (fun s259 g260 _ ho => ?_) fun g288 => ?_
    ·refine run 6 ?_
     obtain ⟨x261, hx261, ho⟩ := bnd ho
     refine run 5 ?_
     refine wct ho (fun hq262 ho => ?_) fun hq262 ho => ?_
     ·refine run 7 ?_
      obtain ⟨x263, hx263, ho⟩ := bnd ho
      refine run 3 ?_
      obtain ⟨x264, hx264, ho⟩ := bnd ho
      refine run 6 ?_
      refine r_draw [10] (by kernel_rfl) ?_
      refine run 4 ?_
      refine xcl ho ?_
      intro y273 hy273 ho
      show SOps ..
      refine run 2 ?_
      refine wbr ho (fun hb274 ho => ?_) fun hb274 ho => ?_
      ·refine run 25 ?_
       refine r_cond (.t rfl) (fun _ => ?_) (fun hq => by cases hq)
       exact w ho
      ·refine run 2 ?_
       obtain ⟨x276, hx276, ho⟩ := bnd ho
       refine run 4 ?_
       refine wbr ho (fun hb277 ho => ?_) fun hb277 ho => ?_
       ·refine run 19 ?_
        refine r_cond (.t rfl) (fun _ => ?_) (fun hq => by cases hq)
        exact w ho
       ·refine run 3 ?_
        refine wbr ho (fun hb279 ho => ?_) fun hb279 ho => ?_
        ·refine run 4 ?_
         obtain ⟨x280, hx280, ho⟩ := bnd ho
         refine run 4 ?_
         obtain ⟨x281, hx281, ho⟩ := bnd ho
         refine run 3 ?_
         refine xcl ho ?_
         intro y282 hy282 ho
         show SOps ..
         refine run 4 ?_
         refine wct ho (fun hq283 ho => ?_) fun hq283 ho => ?_
         ·exact w ho
         ·refine run 5 ?_
          obtain ⟨x284, hx284, ho⟩ := bnd ho
          refine run 12 ?_
          cases ho; exact s_nil (lf [] [0])
        ·refine run 16 ?_
         refine r_cond (.t rfl) (fun hq => by cases hq) (fun _ => ?_)
         refine run 5 ?_
         obtain ⟨x286, hx286, ho⟩ := bnd ho
         refine run 12 ?_
         cases ho; exact s_nil (lf [] [0])
     ·cases ho; exact r_exit (lf [] [0])
    ·rcases t287 with b289 | b290
     ·have ho := alt_l ho
      show SRun ..
      refine run 5 ?_
      refine wbr ho (fun hb296 ho => ?_) fun hb296 ho => ?_
      ·refine run 2 ?_
       obtain ⟨x297, hx297, ho⟩ := bnd ho
       refine run 2 ?_
       obtain ⟨x298, hx298, ho⟩ := bnd ho
       refine run 5 ?_
       obtain ⟨x299, hx299, ho⟩ := bnd ho
       refine run 2 ?_
       obtain ⟨x300, hx300, ho⟩ := bnd ho
       refine run 5 ?_
       refine wct ho (fun hq301 ho => ?_) fun hq301 ho => ?_
       ·exact w ho
       ·refine run 5 ?_
        cases ho; exact s_nil (lf [] [0])
      ·refine run 16 ?_
       refine r_cond (.t rfl) (fun hq => by cases hq) (fun _ => ?_)
       refine run 5 ?_
       cases ho; exact s_nil (lf [] [0])
     ·have ho := alt_r ho
      cases ho; exact id (lf [] [])
  ·cases ho; exact r_exit (lf [] [])
 ·rcases t303 with b305 | b306
  ·have ho := alt_l ho
   show SRun ..
   exact w ho
  ·have ho := alt_r ho
   cases ho; exact id (ret_of (.inr rfl) (.v rfl .n) (by decide))⟩
instance i24 {w_0} : FI ktab 24 (g_ref08_Rules w_0) [.val rWorkRules w_0] (fun out => [.val rBool (out)]) := ⟨fun out ho => by
 delta g_ref08_Rules at ho
 refine fn fun _ _ => ?_
 refine run 6 ?_
 obtain ⟨c12, hc12, ho⟩ := bnd ho
 refine wcx c12 [] (fun t => (.normal, fun _ => ([(2, vB (t))], []))) SEL ?_ fun _ => ?_
 ·exact w hc12
 ·show SRun ..
  cases ho; exact r_ret (ret_of (.inr rfl) (.v rfl .n) (by decide))⟩
instance i55 {tasks_0 cars_1 x_2} : FI ktab 55 (g_ref08_ends tasks_0 cars_1 x_2) [.val (rSlice rTask) tasks_0, .val (rSlice (rSlice (rInt .i64))) cars_1, .val rDutyPiece x_2] (fun out => [.val rTask (out.1), .val rTask (out.2)]) := ⟨fun out ho => by
 delta g_ref08_ends at ho
 refine fn fun _ _ => ?_
 refine run 3 ?_
 refine xal (zv := .agg [.int .i64 0, .int .i64 0, .int .i64 0, .int .i64 0]) (es := [vI (0), vI (0), vI (0), vI (0)]) (by kernel_rfl) fun b1 => ?_
 refine xal (zv := .agg [.int .i64 0, .int .i64 0, .int .i64 0, .int .i64 0]) (es := [vI (0), vI (0), vI (0), vI (0)]) (by kernel_rfl) fun b3 => ?_
 refine run 7 ?_
 obtain ⟨x5, hx5, ho⟩ := bnd ho
 refine run 4 ?_
 obtain ⟨x6, hx6, ho⟩ := bnd ho
 refine run 2 ?_
 obtain ⟨x7, hx7, ho⟩ := bnd ho
 refine run 6 ?_
 obtain ⟨x8, hx8, ho⟩ := bnd ho
 refine run 4 ?_
 obtain ⟨x9, hx9, ho⟩ := bnd ho
 refine run 2 ?_
 obtain ⟨x10, hx10, ho⟩ := bnd ho
 refine run 5 ?_
 cases ho; exact r_ret (ret_of (.inr rfl) (.b 1 U87 (cells_pair (cells_one rfl) (cells_pair (cells_one rfl) (cells_pair (cells_one rfl) (cells_pair (cells_one rfl) cells_unit rfl) rfl) rfl) rfl) rfl rfl (.b 0 U87 (cells_pair (cells_one rfl) (cells_pair (cells_one rfl) (cells_pair (cells_one rfl) (cells_pair (cells_one rfl) cells_unit rfl) rfl) rfl) rfl) rfl rfl .n)) (by decide))⟩
instance i34 {p_0 p_1 p_2 p_3 p_4} : FI ktab 34 (g_ref08_Faults p_0 p_1 p_2 p_3 p_4) [.val (rSlice rTask) p_0, .val rYard p_1, .val (rSlice (rSlice (rInt .i64))) p_2, .val rWorkRules p_3, .val rDuty p_4] (fun out => [.row (rInt .i64) (out)]) := ⟨fun out ho => by
 delta g_ref08_Faults at ho
 refine fn fun _ _ => ?_
 refine run 5 ?_
 refine s_st (st_nilrow (rInt .i64)) ?_
 refine s_assign (.n rfl) rfl rfl .nilr ?_
 refine run 21 ?_
 obtain ⟨t106, ht106, ho⟩ := bnd ho
 refine wlp ht106 [0, 2, 6, 8, 9] (fun s g => ([(11, vB (s.1)), (12, vB (s.2.1)), (13, vI (s.2.2.1)), (14, vI (s.2.2.2))], [])) (fun b => (.exit 0, fun g => ([(11, vB (b.1)), (12, vB (b.2.1)), (13, vI (b.2.2))], []))) [] SEL (pk []) NE (fun s53 g54 _ ho => ?_) fun g107 => ?_
 ·refine run 9 ?_
  refine wct ho (fun hq55 ho => ?_) fun hq55 ho => ?_
  ·refine run 8 ?_
   obtain ⟨x56, hx56, ho⟩ := bnd ho
   refine run 2 ?_
   refine xal (zv := .agg [.int .i64 0, .int .i64 0, .int .i64 0]) (es := [vI (0), vI (0), vI (0)]) (by kernel_rfl) fun b57 => ?_
   refine run 1 ?_
   refine s_st (st_freezeb (R := rDutyPiece) (a := x56) 0 [15] (cells_pair (cells_one rfl) (cells_pair (cells_one rfl) (cells_pair (cells_one rfl) cells_unit rfl) rfl) rfl) rfl rfl ⟨rfl, trivial⟩) ?_
   refine run 6 ?_
   refine xcl ho ?_
   intro y59 hy59 ho
   show SOps ..
   refine run 3 ?_
   refine xal (zv := .agg [.int .i64 0, .int .i64 0, .int .i64 0, .int .i64 0]) (es := [vI (0), vI (0), vI (0), vI (0)]) (by kernel_rfl) fun b60 => ?_
   refine xal (zv := .agg [.int .i64 0, .int .i64 0, .int .i64 0, .int .i64 0]) (es := [vI (0), vI (0), vI (0), vI (0)]) (by kernel_rfl) fun b62 => ?_
   refine run 1 ?_
   refine s_st (st_freezeb (R := rTask) (a := y59.1) 1 [16] (cells_pair (cells_one rfl) (cells_pair (cells_one rfl) (cells_pair (cells_one rfl) (cells_pair (cells_one rfl) cells_unit rfl) rfl) rfl) rfl) rfl rfl ⟨rfl, trivial⟩) ?_
   refine run 1 ?_
   refine s_st (st_freezeb (R := rTask) (a := y59.2) 0 [17] (cells_pair (cells_one rfl) (cells_pair (cells_one rfl) (cells_pair (cells_one rfl) (cells_pair (cells_one rfl) cells_unit rfl) rfl) rfl) rfl) rfl rfl ⟨rfl, trivial⟩) ?_
   exact w ho
  ·cases ho; exact r_exit (lf [] [])
 ·show SRun ..
  refine run 2 ?_
  refine s_st (st_nilrow (rInt .i64)) ?_
  refine s_assign (.n rfl) rfl rfl .nilr ?_
  refine run 6 ?_
  refine wct ho (fun hq109 ho => ?_) fun hq109 ho => ?_
  ·refine run 3 ?_
   obtain ⟨x110, hx110, ho⟩ := bnd ho
   refine xap fun v111 => ?_
   refine run 7 ?_
   refine wct ho (fun hq112 ho => ?_) fun hq112 ho => ?_
   ·refine run 3 ?_
    obtain ⟨x113, hx113, ho⟩ := bnd ho
    refine xap fun v114 => ?_
    refine run 8 ?_
    obtain ⟨x115, hx115, ho⟩ := bnd ho
    refine run 2 ?_
    refine xcl ho ?_
    intro y116 hy116 ho
    show SOps ..
    refine run 3 ?_
    refine xal (zv := .agg [.int .i64 0, .int .i64 0, .int .i64 0, .int .i64 0]) (es := [vI (0), vI (0), vI (0), vI (0)]) (by kernel_rfl) fun b117 => ?_
    refine xal (zv := .agg [.int .i64 0, .int .i64 0, .int .i64 0, .int .i64 0]) (es := [vI (0), vI (0), vI (0), vI (0)]) (by kernel_rfl) fun b119 => ?_
    refine run 1 ?_
    refine s_st (st_freezeb (R := rTask) (a := y116.1) 1 [19] (cells_pair (cells_one rfl) (cells_pair (cells_one rfl) (cells_pair (cells_one rfl) (cells_pair (cells_one rfl) cells_unit rfl) rfl) rfl) rfl) rfl rfl ⟨rfl, trivial⟩) ?_
    refine run 10 ?_
    refine wct ho (fun hq121 ho => ?_) fun hq121 ho => ?_
    ·refine run 6 ?_
     obtain ⟨x122, hx122, ho⟩ := bnd ho
     refine run 2 ?_
     refine xcl ho ?_
     intro y123 hy123 ho
     show SOps ..
     refine run 3 ?_
     refine xal (zv := .agg [.int .i64 0, .int .i64 0, .int .i64 0, .int .i64 0]) (es := [vI (0), vI (0), vI (0), vI (0)]) (by kernel_rfl) fun b124 => ?_
     refine xal (zv := .agg [.int .i64 0, .int .i64 0, .int .i64 0, .int .i64 0]) (es := [vI (0), vI (0), vI (0), vI (0)]) (by kernel_rfl) fun b126 => ?_
     refine run 1 ?_
     refine s_st (st_freezeb (R := rTask) (a := y123.1) 1 [21] (cells_pair (cells_one rfl) (cells_pair (cells_one rfl) (cells_pair (cells_one rfl) (cells_pair (cells_one rfl) cells_unit rfl) rfl) rfl) rfl) rfl rfl ⟨rfl, trivial⟩) ?_
     refine run 1 ?_
     refine s_st (st_freezeb (R := rTask) (a := y123.2) 0 [22] (cells_pair (cells_one rfl) (cells_pair (cells_one rfl) (cells_pair (cells_one rfl) (cells_pair (cells_one rfl) cells_unit rfl) rfl) rfl) rfl) rfl rfl ⟨rfl, trivial⟩) ?_
     refine run 2 ?_
     refine r_draw [3] (by kernel_rfl) ?_
     refine run 4 ?_
     obtain ⟨x128, hx128, ho⟩ := bnd ho
     refine run 4 ?_
     obtain ⟨x129, hx129, ho⟩ := bnd ho
     refine run 6 ?_
     obtain ⟨c131, hc131, ho⟩ := bnd ho
     refine wcx c131 [8, 13, 18, 19, 20, 21, 22, 23] (fun t => (.normal, fun _ => ([(152, vB (t))], [(.ptr b119 0, .box [vI (y116.2.1), vI (y116.2.2.1), vI (y116.2.2.2.1), vI (y116.2.2.2.2.1)]), (v114, .row (rInt .i64) (x113))]))) SEL ?_ fun _ => ?_
     ·have ho := hc131
      refine run 7 ?_
      refine wbr ho (fun hb132 ho => ?_) fun hb132 ho => ?_
      ·refine run 3 ?_
       cases ho; exact s_nil (lf [] [0, 1])
      ·refine run 3 ?_
       cases ho; exact s_nil (lf [] [0, 1])
     ·show SRun ..
      refine wct ho (fun hq133 ho => ?_) fun hq133 ho => ?_
      ·refine run 3 ?_
       obtain ⟨x134, hx134, ho⟩ := bnd ho
       refine xap fun v135 => ?_
       refine run 24 ?_
       refine wct ho (fun hq136 ho => ?_) fun hq136 ho => ?_
       ·refine run 3 ?_
        obtain ⟨x137, hx137, ho⟩ := bnd ho
        refine xap fun v138 => ?_
        refine run 10 ?_
        refine wct ho (fun hq139 ho => ?_) fun hq139 ho => ?_
        ·refine run 3 ?_
         obtain ⟨x140, hx140, ho⟩ := bnd ho
         refine xap fun v141 => ?_
         exact w ho
        ·exact w ho
       ·refine run 9 ?_
        refine wct ho (fun hq142 ho => ?_) fun hq142 ho => ?_
        ·refine run 3 ?_
         obtain ⟨x143, hx143, ho⟩ := bnd ho
         refine xap fun v144 => ?_
         exact w ho
        ·exact w ho
      ·refine run 13 ?_
       refine wct ho (fun hq145 ho => ?_) fun hq145 ho => ?_
       ·refine run 3 ?_
        obtain ⟨x146, hx146, ho⟩ := bnd ho
        refine xap fun v147 => ?_
        refine run 24 ?_
        refine wct ho (fun hq148 ho => ?_) fun hq148 ho => ?_
        ·refine run 3 ?_
         obtain ⟨x149, hx149, ho⟩ := bnd ho
         refine xap fun v150 => ?_
         refine run 10 ?_
         refine wct ho (fun hq151 ho => ?_) fun hq151 ho => ?_
         ·refine run 3 ?_
          obtain ⟨x152, hx152, ho⟩ := bnd ho
          refine xap fun v153 => ?_
          exact w ho
         ·exact w ho
        ·refine run 9 ?_
         refine wct ho (fun hq154 ho => ?_) fun hq154 ho => ?_
         ·refine run 3 ?_
          obtain ⟨x155, hx155, ho⟩ := bnd ho
          refine xap fun v156 => ?_
          exact w ho
         ·exact w ho
       ·refine run 23 ?_
        refine wct ho (fun hq157 ho => ?_) fun hq157 ho => ?_
        ·refine run 3 ?_
         obtain ⟨x158, hx158, ho⟩ := bnd ho
         refine xap fun v159 => ?_
         refine run 10 ?_
         refine wct ho (fun hq160 ho => ?_) fun hq160 ho => ?_
         ·refine run 3 ?_
          obtain ⟨x161, hx161, ho⟩ := bnd ho
          refine xap fun v162 => ?_
          exact w ho
         ·exact w ho
        ·refine run 9 ?_
         refine wct ho (fun hq163 ho => ?_) fun hq163 ho => ?_
         ·refine run 3 ?_
          obtain ⟨x164, hx164, ho⟩ := bnd ho
          refine xap fun v165 => ?_
          exact w ho
         ·exact w ho
    ·refine run 19 ?_
     refine wct ho (fun hq166 ho => ?_) fun hq166 ho => ?_
     ·refine run 3 ?_
      obtain ⟨x167, hx167, ho⟩ := bnd ho
      refine xap fun v168 => ?_
      refine run 10 ?_
      refine wct ho (fun hq169 ho => ?_) fun hq169 ho => ?_
      ·refine run 3 ?_
       obtain ⟨x170, hx170, ho⟩ := bnd ho
       refine xap fun v171 => ?_
       exact w ho
      ·exact w ho
     ·refine run 9 ?_
      refine wct ho (fun hq172 ho => ?_) fun hq172 ho => ?_
      ·refine run 3 ?_
       obtain ⟨x173, hx173, ho⟩ := bnd ho
       refine xap fun v174 => ?_
       exact w ho
      ·exact w ho
   ·refine run 7 ?_
    obtain ⟨x175, hx175, ho⟩ := bnd ho
    refine run 2 ?_
    refine xcl ho ?_
    intro y176 hy176 ho
    show SOps ..
    refine run 3 ?_
    refine xal (zv := .agg [.int .i64 0, .int .i64 0, .int .i64 0, .int .i64 0]) (es := [vI (0), vI (0), vI (0), vI (0)]) (by kernel_rfl) fun b177 => ?_
    refine xal (zv := .agg [.int .i64 0, .int .i64 0, .int .i64 0, .int .i64 0]) (es := [vI (0), vI (0), vI (0), vI (0)]) (by kernel_rfl) fun b179 => ?_
    refine run 1 ?_
    refine s_st (st_freezeb (R := rTask) (a := y176.1) 1 [19] (cells_pair (cells_one rfl) (cells_pair (cells_one rfl) (cells_pair (cells_one rfl) (cells_pair (cells_one rfl) cells_unit rfl) rfl) rfl) rfl) rfl rfl ⟨rfl, trivial⟩) ?_
    refine run 10 ?_
    refine wct ho (fun hq181 ho => ?_) fun hq181 ho => ?_
    ·refine run 6 ?_
     obtain ⟨x182, hx182, ho⟩ := bnd ho
     refine run 2 ?_
     refine xcl ho ?_
     intro y183 hy183 ho
     show SOps ..
     refine run 3 ?_
     refine xal (zv := .agg [.int .i64 0, .int .i64 0, .int .i64 0, .int .i64 0]) (es := [vI (0), vI (0), vI (0), vI (0)]) (by kernel_rfl) fun b184 => ?_
     refine xal (zv := .agg [.int .i64 0, .int .i64 0, .int .i64 0, .int .i64 0]) (es := [vI (0), vI (0), vI (0), vI (0)]) (by kernel_rfl) fun b186 => ?_
     refine run 1 ?_
     refine s_st (st_freezeb (R := rTask) (a := y183.1) 1 [21] (cells_pair (cells_one rfl) (cells_pair (cells_one rfl) (cells_pair (cells_one rfl) (cells_pair (cells_one rfl) cells_unit rfl) rfl) rfl) rfl) rfl rfl ⟨rfl, trivial⟩) ?_
     refine run 1 ?_
     refine s_st (st_freezeb (R := rTask) (a := y183.2) 0 [22] (cells_pair (cells_one rfl) (cells_pair (cells_one rfl) (cells_pair (cells_one rfl) (cells_pair (cells_one rfl) cells_unit rfl) rfl) rfl) rfl) rfl rfl ⟨rfl, trivial⟩) ?_
     refine run 2 ?_
     refine r_draw [3] (by kernel_rfl) ?_
     refine run 4 ?_
     obtain ⟨x188, hx188, ho⟩ := bnd ho
     refine run 4 ?_
     obtain ⟨x189, hx189, ho⟩ := bnd ho
     refine run 6 ?_
     obtain ⟨c191, hc191, ho⟩ := bnd ho
     refine wcx c191 [8, 13, 18, 19, 20, 21, 22, 23] (fun t => (.normal, fun _ => ([(152, vB (t))], [(.ptr b179 0, .box [vI (y176.2.1), vI (y176.2.2.1), vI (y176.2.2.2.1), vI (y176.2.2.2.2.1)]), (v111, .row (rInt .i64) (x110))]))) SEL ?_ fun _ => ?_
     ·have ho := hc191
      refine run 7 ?_
      refine wbr ho (fun hb192 ho => ?_) fun hb192 ho => ?_
      ·refine run 3 ?_
       cases ho; exact s_nil (lf [] [0, 1])
      ·refine run 3 ?_
       cases ho; exact s_nil (lf [] [0, 1])
     ·show SRun ..
      refine wct ho (fun hq193 ho => ?_) fun hq193 ho => ?_
      ·refine run 3 ?_
       obtain ⟨x194, hx194, ho⟩ := bnd ho
       refine xap fun v195 => ?_
       refine run 24 ?_
       refine wct ho (fun hq196 ho => ?_) fun hq196 ho => ?_
       ·refine run 3 ?_
        obtain ⟨x197, hx197, ho⟩ := bnd ho
        refine xap fun v198 => ?_
        refine run 10 ?_
        refine wct ho (fun hq199 ho => ?_) fun hq199 ho => ?_
        ·refine run 3 ?_
         obtain ⟨x200, hx200, ho⟩ := bnd ho
         refine xap fun v201 => ?_
         exact w ho
        ·exact w ho
       ·refine run 9 ?_
        refine wct ho (fun hq202 ho => ?_) fun hq202 ho => ?_
        ·refine run 3 ?_
         obtain ⟨x203, hx203, ho⟩ := bnd ho
         refine xap fun v204 => ?_
         exact w ho
        ·exact w ho
      ·refine run 13 ?_
       refine wct ho (fun hq205 ho => ?_) fun hq205 ho => ?_
       ·refine run 3 ?_
        obtain ⟨x206, hx206, ho⟩ := bnd ho
        refine xap fun v207 => ?_
        refine run 24 ?_
        refine wct ho (fun hq208 ho => ?_) fun hq208 ho => ?_
        ·refine run 3 ?_
         obtain ⟨x209, hx209, ho⟩ := bnd ho
         refine xap fun v210 => ?_
         refine run 10 ?_
         refine wct ho (fun hq211 ho => ?_) fun hq211 ho => ?_
         ·refine run 3 ?_
          obtain ⟨x212, hx212, ho⟩ := bnd ho
          refine xap fun v213 => ?_
          exact w ho
         ·exact w ho
        ·refine run 9 ?_
         refine wct ho (fun hq214 ho => ?_) fun hq214 ho => ?_
         ·refine run 3 ?_
          obtain ⟨x215, hx215, ho⟩ := bnd ho
          refine xap fun v216 => ?_
          exact w ho
         ·exact w ho
       ·refine run 23 ?_
        refine wct ho (fun hq217 ho => ?_) fun hq217 ho => ?_
        ·refine run 3 ?_
         obtain ⟨x218, hx218, ho⟩ := bnd ho
         refine xap fun v219 => ?_
         refine run 10 ?_
         refine wct ho (fun hq220 ho => ?_) fun hq220 ho => ?_
         ·refine run 3 ?_
          obtain ⟨x221, hx221, ho⟩ := bnd ho
          refine xap fun v222 => ?_
          exact w ho
         ·exact w ho
        ·refine run 9 ?_
         refine wct ho (fun hq223 ho => ?_) fun hq223 ho => ?_
         ·refine run 3 ?_
          obtain ⟨x224, hx224, ho⟩ := bnd ho
          refine xap fun v225 => ?_
          exact w ho
         ·exact w ho
    ·refine run 19 ?_
     refine wct ho (fun hq226 ho => ?_) fun hq226 ho => ?_
     ·refine run 3 ?_
      obtain ⟨x227, hx227, ho⟩ := bnd ho
      refine xap fun v228 => ?_
      refine run 10 ?_
      refine wct ho (fun hq229 ho => ?_) fun hq229 ho => ?_
      ·refine run 3 ?_
       obtain ⟨x230, hx230, ho⟩ := bnd ho
       refine xap fun v231 => ?_
       exact w ho
      ·exact w ho
     ·refine run 9 ?_
      refine wct ho (fun hq232 ho => ?_) fun hq232 ho => ?_
      ·refine run 3 ?_
       obtain ⟨x233, hx233, ho⟩ := bnd ho
       refine xap fun v234 => ?_
       exact w ho
      ·exact w ho
  ·refine run 6 ?_
   refine wct ho (fun hq235 ho => ?_) fun hq235 ho => ?_
   ·refine run 3 ?_
    obtain ⟨x236, hx236, ho⟩ := bnd ho
    refine xap fun v237 => ?_
    refine run 8 ?_
    obtain ⟨x238, hx238, ho⟩ := bnd ho
    refine run 2 ?_
    refine xcl ho ?_
    intro y239 hy239 ho
    show SOps ..
    refine run 3 ?_
    refine xal (zv := .agg [.int .i64 0, .int .i64 0, .int .i64 0, .int .i64 0]) (es := [vI (0), vI (0), vI (0), vI (0)]) (by kernel_rfl) fun b240 => ?_
    refine xal (zv := .agg [.int .i64 0, .int .i64 0, .int .i64 0, .int .i64 0]) (es := [vI (0), vI (0), vI (0), vI (0)]) (by kernel_rfl) fun b242 => ?_
    refine run 1 ?_
    refine s_st (st_freezeb (R := rTask) (a := y239.1) 1 [19] (cells_pair (cells_one rfl) (cells_pair (cells_one rfl) (cells_pair (cells_one rfl) (cells_pair (cells_one rfl) cells_unit rfl) rfl) rfl) rfl) rfl rfl ⟨rfl, trivial⟩) ?_
    refine run 10 ?_
    refine wct ho (fun hq244 ho => ?_) fun hq244 ho => ?_
    ·refine run 6 ?_
     obtain ⟨x245, hx245, ho⟩ := bnd ho
     refine run 2 ?_
     refine xcl ho ?_
     intro y246 hy246 ho
     show SOps ..
     refine run 3 ?_
     refine xal (zv := .agg [.int .i64 0, .int .i64 0, .int .i64 0, .int .i64 0]) (es := [vI (0), vI (0), vI (0), vI (0)]) (by kernel_rfl) fun b247 => ?_
     refine xal (zv := .agg [.int .i64 0, .int .i64 0, .int .i64 0, .int .i64 0]) (es := [vI (0), vI (0), vI (0), vI (0)]) (by kernel_rfl) fun b249 => ?_
     refine run 1 ?_
     refine s_st (st_freezeb (R := rTask) (a := y246.1) 1 [21] (cells_pair (cells_one rfl) (cells_pair (cells_one rfl) (cells_pair (cells_one rfl) (cells_pair (cells_one rfl) cells_unit rfl) rfl) rfl) rfl) rfl rfl ⟨rfl, trivial⟩) ?_
     refine run 1 ?_
     refine s_st (st_freezeb (R := rTask) (a := y246.2) 0 [22] (cells_pair (cells_one rfl) (cells_pair (cells_one rfl) (cells_pair (cells_one rfl) (cells_pair (cells_one rfl) cells_unit rfl) rfl) rfl) rfl) rfl rfl ⟨rfl, trivial⟩) ?_
     refine run 2 ?_
     refine r_draw [3] (by kernel_rfl) ?_
     refine run 4 ?_
     obtain ⟨x251, hx251, ho⟩ := bnd ho
     refine run 4 ?_
     obtain ⟨x252, hx252, ho⟩ := bnd ho
     refine run 6 ?_
     obtain ⟨c254, hc254, ho⟩ := bnd ho
     refine wcx c254 [8, 13, 18, 19, 20, 21, 22, 23] (fun t => (.normal, fun _ => ([(152, vB (t))], [(.ptr b242 0, .box [vI (y239.2.1), vI (y239.2.2.1), vI (y239.2.2.2.1), vI (y239.2.2.2.2.1)]), (v237, .row (rInt .i64) (x236))]))) SEL ?_ fun _ => ?_
     ·have ho := hc254
      refine run 7 ?_
      refine wbr ho (fun hb255 ho => ?_) fun hb255 ho => ?_
      ·refine run 3 ?_
       cases ho; exact s_nil (lf [] [0, 1])
      ·refine run 3 ?_
       cases ho; exact s_nil (lf [] [0, 1])
     ·show SRun ..
      refine wct ho (fun hq256 ho => ?_) fun hq256 ho => ?_
      ·refine run 3 ?_
       obtain ⟨x257, hx257, ho⟩ := bnd ho
       refine xap fun v258 => ?_
       refine run 24 ?_
       refine wct ho (fun hq259 ho => ?_) fun hq259 ho => ?_
       ·refine run 3 ?_
        obtain ⟨x260, hx260, ho⟩ := bnd ho
        refine xap fun v261 => ?_
        refine run 10 ?_
        refine wct ho (fun hq262 ho => ?_) fun hq262 ho => ?_
        ·refine run 3 ?_
         obtain ⟨x263, hx263, ho⟩ := bnd ho
         refine xap fun v264 => ?_
         exact w ho
        ·exact w ho
       ·refine run 9 ?_
        refine wct ho (fun hq265 ho => ?_) fun hq265 ho => ?_
        ·refine run 3 ?_
         obtain ⟨x266, hx266, ho⟩ := bnd ho
         refine xap fun v267 => ?_
         exact w ho
        ·exact w ho
      ·refine run 13 ?_
       refine wct ho (fun hq268 ho => ?_) fun hq268 ho => ?_
       ·refine run 3 ?_
        obtain ⟨x269, hx269, ho⟩ := bnd ho
        refine xap fun v270 => ?_
        refine run 24 ?_
        refine wct ho (fun hq271 ho => ?_) fun hq271 ho => ?_
        ·refine run 3 ?_
         obtain ⟨x272, hx272, ho⟩ := bnd ho
         refine xap fun v273 => ?_
         refine run 10 ?_
         refine wct ho (fun hq274 ho => ?_) fun hq274 ho => ?_
         ·refine run 3 ?_
          obtain ⟨x275, hx275, ho⟩ := bnd ho
          refine xap fun v276 => ?_
          exact w ho
         ·exact w ho
        ·refine run 9 ?_
         refine wct ho (fun hq277 ho => ?_) fun hq277 ho => ?_
         ·refine run 3 ?_
          obtain ⟨x278, hx278, ho⟩ := bnd ho
          refine xap fun v279 => ?_
          exact w ho
         ·exact w ho
       ·refine run 23 ?_
        refine wct ho (fun hq280 ho => ?_) fun hq280 ho => ?_
        ·refine run 3 ?_
         obtain ⟨x281, hx281, ho⟩ := bnd ho
         refine xap fun v282 => ?_
         refine run 10 ?_
         refine wct ho (fun hq283 ho => ?_) fun hq283 ho => ?_
         ·refine run 3 ?_
          obtain ⟨x284, hx284, ho⟩ := bnd ho
          refine xap fun v285 => ?_
          exact w ho
         ·exact w ho
        ·refine run 9 ?_
         refine wct ho (fun hq286 ho => ?_) fun hq286 ho => ?_
         ·refine run 3 ?_
          obtain ⟨x287, hx287, ho⟩ := bnd ho
          refine xap fun v288 => ?_
          exact w ho
         ·exact w ho
    ·refine run 19 ?_
     refine wct ho (fun hq289 ho => ?_) fun hq289 ho => ?_
     ·refine run 3 ?_
      obtain ⟨x290, hx290, ho⟩ := bnd ho
      refine xap fun v291 => ?_
      refine run 10 ?_
      refine wct ho (fun hq292 ho => ?_) fun hq292 ho => ?_
      ·refine run 3 ?_
       obtain ⟨x293, hx293, ho⟩ := bnd ho
       refine xap fun v294 => ?_
       exact w ho
      ·exact w ho
     ·refine run 9 ?_
      refine wct ho (fun hq295 ho => ?_) fun hq295 ho => ?_
      ·refine run 3 ?_
       obtain ⟨x296, hx296, ho⟩ := bnd ho
       refine xap fun v297 => ?_
       exact w ho
      ·exact w ho
   ·refine run 7 ?_
    obtain ⟨x298, hx298, ho⟩ := bnd ho
    refine run 2 ?_
    refine xcl ho ?_
    intro y299 hy299 ho
    show SOps ..
    refine run 3 ?_
    refine xal (zv := .agg [.int .i64 0, .int .i64 0, .int .i64 0, .int .i64 0]) (es := [vI (0), vI (0), vI (0), vI (0)]) (by kernel_rfl) fun b300 => ?_
    refine xal (zv := .agg [.int .i64 0, .int .i64 0, .int .i64 0, .int .i64 0]) (es := [vI (0), vI (0), vI (0), vI (0)]) (by kernel_rfl) fun b302 => ?_
    refine run 1 ?_
    refine s_st (st_freezeb (R := rTask) (a := y299.1) 1 [19] (cells_pair (cells_one rfl) (cells_pair (cells_one rfl) (cells_pair (cells_one rfl) (cells_pair (cells_one rfl) cells_unit rfl) rfl) rfl) rfl) rfl rfl ⟨rfl, trivial⟩) ?_
    refine run 10 ?_
    refine wct ho (fun hq304 ho => ?_) fun hq304 ho => ?_
    ·refine run 6 ?_
     obtain ⟨x305, hx305, ho⟩ := bnd ho
     refine run 2 ?_
     refine xcl ho ?_
     intro y306 hy306 ho
     show SOps ..
     refine run 3 ?_
     refine xal (zv := .agg [.int .i64 0, .int .i64 0, .int .i64 0, .int .i64 0]) (es := [vI (0), vI (0), vI (0), vI (0)]) (by kernel_rfl) fun b307 => ?_
     refine xal (zv := .agg [.int .i64 0, .int .i64 0, .int .i64 0, .int .i64 0]) (es := [vI (0), vI (0), vI (0), vI (0)]) (by kernel_rfl) fun b309 => ?_
     refine run 1 ?_
     refine s_st (st_freezeb (R := rTask) (a := y306.1) 1 [21] (cells_pair (cells_one rfl) (cells_pair (cells_one rfl) (cells_pair (cells_one rfl) (cells_pair (cells_one rfl) cells_unit rfl) rfl) rfl) rfl) rfl rfl ⟨rfl, trivial⟩) ?_
     refine run 1 ?_
     refine s_st (st_freezeb (R := rTask) (a := y306.2) 0 [22] (cells_pair (cells_one rfl) (cells_pair (cells_one rfl) (cells_pair (cells_one rfl) (cells_pair (cells_one rfl) cells_unit rfl) rfl) rfl) rfl) rfl rfl ⟨rfl, trivial⟩) ?_
     refine run 2 ?_
     refine r_draw [3] (by kernel_rfl) ?_
     refine run 4 ?_
     obtain ⟨x311, hx311, ho⟩ := bnd ho
     refine run 4 ?_
     obtain ⟨x312, hx312, ho⟩ := bnd ho
     refine run 6 ?_
     obtain ⟨c314, hc314, ho⟩ := bnd ho
     refine wcx c314 [8, 13, 18, 19, 20, 21, 22, 23] (fun t => (.normal, fun _ => ([(152, vB (t))], [(.ptr b302 0, .box [vI (y299.2.1), vI (y299.2.2.1), vI (y299.2.2.2.1), vI (y299.2.2.2.2.1)]), (.nilslice, .row (rInt .i64) ([]))]))) SEL ?_ fun _ => ?_
     ·have ho := hc314
      refine run 7 ?_
      refine wbr ho (fun hb315 ho => ?_) fun hb315 ho => ?_
      ·refine run 3 ?_
       cases ho; exact s_nil (lf [] [0, 1])
      ·refine run 3 ?_
       cases ho; exact s_nil (lf [] [0, 1])
     ·show SRun ..
      refine wct ho (fun hq316 ho => ?_) fun hq316 ho => ?_
      ·refine run 3 ?_
       obtain ⟨x317, hx317, ho⟩ := bnd ho
       refine xap fun v318 => ?_
       refine run 24 ?_
       refine wct ho (fun hq319 ho => ?_) fun hq319 ho => ?_
       ·refine run 3 ?_
        obtain ⟨x320, hx320, ho⟩ := bnd ho
        refine xap fun v321 => ?_
        refine run 10 ?_
        refine wct ho (fun hq322 ho => ?_) fun hq322 ho => ?_
        ·refine run 3 ?_
         obtain ⟨x323, hx323, ho⟩ := bnd ho
         refine xap fun v324 => ?_
         exact w ho
        ·exact w ho
       ·refine run 9 ?_
        refine wct ho (fun hq325 ho => ?_) fun hq325 ho => ?_
        ·refine run 3 ?_
         obtain ⟨x326, hx326, ho⟩ := bnd ho
         refine xap fun v327 => ?_
         exact w ho
        ·exact w ho
      ·refine run 13 ?_
       refine wct ho (fun hq328 ho => ?_) fun hq328 ho => ?_
       ·refine run 3 ?_
        obtain ⟨x329, hx329, ho⟩ := bnd ho
        refine xap fun v330 => ?_
        refine run 24 ?_
        refine wct ho (fun hq331 ho => ?_) fun hq331 ho => ?_
        ·refine run 3 ?_
         obtain ⟨x332, hx332, ho⟩ := bnd ho
         refine xap fun v333 => ?_
         refine run 10 ?_
         refine wct ho (fun hq334 ho => ?_) fun hq334 ho => ?_
         ·refine run 3 ?_
          obtain ⟨x335, hx335, ho⟩ := bnd ho
          refine xap fun v336 => ?_
          exact w ho
         ·exact w ho
        ·refine run 9 ?_
         refine wct ho (fun hq337 ho => ?_) fun hq337 ho => ?_
         ·refine run 3 ?_
          obtain ⟨x338, hx338, ho⟩ := bnd ho
          refine xap fun v339 => ?_
          exact w ho
         ·exact w ho
       ·refine run 23 ?_
        refine wct ho (fun hq340 ho => ?_) fun hq340 ho => ?_
        ·refine run 3 ?_
         obtain ⟨x341, hx341, ho⟩ := bnd ho
         refine xap fun v342 => ?_
         refine run 10 ?_
         refine wct ho (fun hq343 ho => ?_) fun hq343 ho => ?_
         ·refine run 3 ?_
          obtain ⟨x344, hx344, ho⟩ := bnd ho
          refine xap fun v345 => ?_
          exact w ho
         ·exact w ho
        ·refine run 9 ?_
         refine wct ho (fun hq346 ho => ?_) fun hq346 ho => ?_
         ·refine run 3 ?_
          obtain ⟨x347, hx347, ho⟩ := bnd ho
          refine xap fun v348 => ?_
          exact w ho
         ·exact w ho
    ·refine run 19 ?_
     refine wct ho (fun hq349 ho => ?_) fun hq349 ho => ?_
     ·refine run 3 ?_
      obtain ⟨x350, hx350, ho⟩ := bnd ho
      refine xap fun v351 => ?_
      refine run 10 ?_
      refine wct ho (fun hq352 ho => ?_) fun hq352 ho => ?_
      ·refine run 3 ?_
       obtain ⟨x353, hx353, ho⟩ := bnd ho
       refine xap fun v354 => ?_
       exact w ho
      ·exact w ho
     ·refine run 9 ?_
      refine wct ho (fun hq355 ho => ?_) fun hq355 ho => ?_
      ·refine run 3 ?_
       obtain ⟨x356, hx356, ho⟩ := bnd ho
       refine xap fun v357 => ?_
       exact w ho
      ·exact w ho⟩
instance i46 {p_0 p_1 p_2 p_3} : FI ktab 46 (g_ref08_Lawful p_0 p_1 p_2 p_3) [.val (rSlice rTask) p_0, .val rYard p_1, .val (rSlice (rSlice (rInt .i64))) p_2, .val rWorkRules p_3] (fun out => [.row rDuty (out)]) := ⟨fun out ho => by
 delta g_ref08_Lawful at ho
 refine fn fun _ _ => ?_
 refine run 4 ?_
 refine s_st (st_nilrow rDuty) ?_
 refine s_assign (.n rfl) rfl rfl .nilr ?_
 refine run 3 ?_
 refine s_st (st_nilrow rDutyPiece) ?_
 refine s_assign (.n rfl) rfl rfl .nilr ?_
 refine run 7 ?_
 obtain ⟨t126, ht126, ho⟩ := bnd ho
 refine wlp ht126 [0, 2, 5, 7] (fun s g => ([(9, .raw ((gh g 0))), (10, vI (s.2))], [((gh g 0), .row rDutyPiece (s.1))])) (fun b => (.exit 0, fun g => ([(9, .raw ((gh g 0)))], [((gh g 0), .row rDutyPiece (b))]))) [.nilslice] SEL (pk [0]) NE (fun s62 g63 _ ho => ?_) fun g127 => ?_
 ·refine run 8 ?_
  refine wct ho (fun hq67 ho => ?_) fun hq67 ho => ?_
  ·refine run 8 ?_
   obtain ⟨t121, ht121, ho⟩ := bnd ho
   refine wlp ht121 [0, 2, 5, 7, 10] (fun s g => ([(9, .raw ((gh g 0))), (11, vI (s.2))], [((gh g 0), .row rDutyPiece (s.1))])) (fun b => (.exit 2, fun g => ([(9, .raw ((gh g 0)))], [((gh g 0), .row rDutyPiece (b))]))) [(gh g63 0)] SEL (pk [0]) NE (fun s92 g93 _ ho => ?_) fun g122 => ?_
   ·refine run 6 ?_
    obtain ⟨x97, hx97, ho⟩ := bnd ho
    refine run 5 ?_
    refine wct ho (fun hq98 ho => ?_) fun hq98 ho => ?_
    ·refine run 9 ?_
     obtain ⟨t116, ht116, ho⟩ := bnd ho
     refine wlp ht116 [0, 2, 5, 7, 10, 11] (fun s g => ([(9, .raw ((gh g 0))), (12, vI (s.2))], [((gh g 0), .row rDutyPiece (s.1))])) (fun b => (.exit 4, fun g => ([(9, .raw ((gh g 0)))], [((gh g 0), .row rDutyPiece (b))]))) [(gh g93 0)] SEL (pk [0]) NE (fun s105 g106 _ ho => ?_) fun g117 => ?_
     ·refine run 6 ?_
      obtain ⟨x110, hx110, ho⟩ := bnd ho
      refine run 5 ?_
      refine wct ho (fun hq111 ho => ?_) fun hq111 ho => ?_
      ·refine run 10 ?_
       obtain ⟨x112, hx112, ho⟩ := bnd ho
       refine xap fun v113 => ?_
       refine run 6 ?_
       cases ho; exact s_nil (lf [v113] [0])
      ·cases ho; exact r_exit (lf [(gh g106 0)] [0])
     ·show SRun ..
      refine run 4 ?_
      cases ho; exact s_nil (lf [(gh g117 0)] [0])
    ·cases ho; exact r_exit (lf [(gh g93 0)] [0])
   ·show SRun ..
    refine run 4 ?_
    cases ho; exact s_nil (lf [(gh g122 0)] [0])
  ·cases ho; exact r_exit (lf [(gh g63 0)] [0])
 ·show SRun ..
  refine run 2 ?_
  refine s_st (st_nilrow rDuty) ?_
  refine s_assign (.n rfl) rfl rfl .nilr ?_
  refine run 7 ?_
  refine r_st (st_freeze 1 [9] rfl rfl ⟨rfl, trivial⟩) ?_
  obtain ⟨t381, ht381, ho⟩ := bnd ho
  refine wlp ht381 [0, 2, 5, 7, 9] (fun s g => ([(13, .raw ((gh g 0))), (14, vI (s.2))], [((gh g 0), .row rDuty (s.1))])) (fun b => (.exit 6, fun g => ([(13, .raw ((gh g 0)))], [((gh g 0), .row rDuty (b))]))) [.nilslice] SEL (pk [0]) NE (fun s293 g294 _ ho => ?_) fun g382 => ?_
  ·refine run 8 ?_
   refine wct ho (fun hq298 ho => ?_) fun hq298 ho => ?_
   ·refine run 9 ?_
    obtain ⟨x299, hx299, ho⟩ := bnd ho
    refine run 2 ?_
    refine xal (zv := .agg [.nilslice]) (es := [.val (rSlice rDutyPiece) ([])]) (by kernel_rfl) fun b300 => ?_
    refine run 1 ?_
    refine s_st (st_freezeb (R := rDuty) (a := ((x299, ()) : Duty)) 0 [15] (cells_pair (cells_one rfl) cells_unit rfl) rfl rfl ⟨rfl, trivial⟩) ?_
    refine run 9 ?_
    refine xcl ho ?_
    intro y302 hy302 ho v303
    show SOps ..
    refine run 3 ?_
    refine wct ho (fun hq305 ho => ?_) fun hq305 ho => ?_
    ·refine run 4 ?_
     obtain ⟨x306, hx306, ho⟩ := bnd ho
     refine xap fun v307 => ?_
     refine run 7 ?_
     obtain ⟨t340, ht340, ho⟩ := bnd ho
     refine wlp ht340 [0, 2, 5, 7, 9, 14] (fun s g => ([(13, .raw ((gh g 0))), (16, vI (s.2))], [((gh g 0), .row rDuty (s.1))])) (fun b => (.exit 8, fun g => ([(13, .raw ((gh g 0)))], [((gh g 0), .row rDuty (b))]))) [v307] SEL (pk [0]) NE (fun s321 g322 _ ho => ?_) fun g341 => ?_
     ·refine run 8 ?_
      refine wct ho (fun hq326 ho => ?_) fun hq326 ho => ?_
      ·refine run 7 ?_
       obtain ⟨x327, hx327, ho⟩ := bnd ho
       refine run 4 ?_
       obtain ⟨x328, hx328, ho⟩ := bnd ho
       refine run 4 ?_
       refine xal (zv := .agg [.nilslice]) (es := [.val (rSlice rDutyPiece) ([])]) (by kernel_rfl) fun b329 => ?_
       refine run 1 ?_
       refine s_st (st_freezeb (R := rDuty) (a := (([x327, x328], ()) : Duty)) 0 [17] (cells_pair (cells_one rfl) cells_unit rfl) rfl rfl ⟨rfl, trivial⟩) ?_
       refine run 8 ?_
       refine xcl ho ?_
       intro y331 hy331 ho v332
       show SOps ..
       refine run 3 ?_
       refine wct ho (fun hq334 ho => ?_) fun hq334 ho => ?_
       ·refine run 4 ?_
        obtain ⟨x335, hx335, ho⟩ := bnd ho
        refine xap fun v336 => ?_
        refine run 6 ?_
        cases ho; exact s_nil (lf [v336] [0])
       ·refine run 5 ?_
        cases ho; exact s_nil (lf [(gh g322 0)] [1])
      ·cases ho; exact r_exit (lf [(gh g322 0)] [0])
     ·show SRun ..
      refine run 4 ?_
      cases ho; exact s_nil (lf [(gh g341 0)] [0])
    ·refine run 6 ?_
     obtain ⟨t376, ht376, ho⟩ := bnd ho
     refine wlp ht376 [0, 2, 5, 7, 9, 14] (fun s g => ([(13, .raw ((gh g 0))), (16, vI (s.2))], [((gh g 0), .row rDuty (s.1))])) (fun b => (.exit 8, fun g => ([(13, .raw ((gh g 0)))], [((gh g 0), .row rDuty (b))]))) [(gh g294 0)] SEL (pk [1]) NE (fun s357 g358 _ ho => ?_) fun g377 => ?_
     ·refine run 8 ?_
      refine wct ho (fun hq362 ho => ?_) fun hq362 ho => ?_
      ·refine run 7 ?_
       obtain ⟨x363, hx363, ho⟩ := bnd ho
       refine run 4 ?_
       obtain ⟨x364, hx364, ho⟩ := bnd ho
       refine run 4 ?_
       refine xal (zv := .agg [.nilslice]) (es := [.val (rSlice rDutyPiece) ([])]) (by kernel_rfl) fun b365 => ?_
       refine run 1 ?_
       refine s_st (st_freezeb (R := rDuty) (a := (([x363, x364], ()) : Duty)) 0 [17] (cells_pair (cells_one rfl) cells_unit rfl) rfl rfl ⟨rfl, trivial⟩) ?_
       refine run 8 ?_
       refine xcl ho ?_
       intro y367 hy367 ho v368
       show SOps ..
       refine run 3 ?_
       refine wct ho (fun hq370 ho => ?_) fun hq370 ho => ?_
       ·refine run 4 ?_
        obtain ⟨x371, hx371, ho⟩ := bnd ho
        refine xap fun v372 => ?_
        refine run 6 ?_
        cases ho; exact s_nil (lf [v372] [0])
       ·refine run 5 ?_
        cases ho; exact s_nil (lf [(gh g358 0)] [1])
      ·cases ho; exact r_exit (lf [(gh g358 0)] [0])
     ·show SRun ..
      refine run 4 ?_
      cases ho; exact s_nil (lf [(gh g377 0)] [0])
   ·cases ho; exact r_exit (lf [(gh g294 0)] [0])
  ·show SRun ..
   exact w ho⟩
instance i47 {cars_0 d_1} : FI ktab 47 (g_ref08_set cars_0 d_1) [.val (rSlice (rSlice (rInt .i64))) cars_0, .val rDuty d_1] (fun out => [.val (rInt .i64) (out.1), .val rBool (out.2)]) := ⟨fun out ho => by
 delta g_ref08_set at ho
 refine fn fun _ _ => ?_
 refine run 16 ?_
 obtain ⟨t55, ht55, ho⟩ := bnd ho
 refine wlp ht55 [] (fun s g => ([(0, .val (rSlice (rSlice (rInt .i64))) (cars_0)), (3, .val (rPtr rDuty) (d_1)), (6, vI (s.1)), (7, vI (s.2))], [])) (altX (fun b => (.exit 0, fun g => ([(6, vI (b))], []))) (fun b => (.ret, fun g => ([(4, vI (b.1)), (5, vB (b.2))], [])))) [] SEL (pk []) NE (fun s27 g28 _ ho => ?_) fun g56 => ?_
 ·refine run 9 ?_
  refine wct ho (fun hq29 ho => ?_) fun hq29 ho => ?_
  ·refine run 8 ?_
   obtain ⟨x30, hx30, ho⟩ := bnd ho
   refine run 2 ?_
   refine xal (zv := .agg [.int .i64 0, .int .i64 0, .int .i64 0]) (es := [vI (0), vI (0), vI (0)]) (by kernel_rfl) fun b31 => ?_
   refine run 1 ?_
   refine s_st (st_freezeb (R := rDutyPiece) (a := x30) 0 [8] (cells_pair (cells_one rfl) (cells_pair (cells_one rfl) (cells_pair (cells_one rfl) cells_unit rfl) rfl) rfl) rfl rfl ⟨rfl, trivial⟩) ?_
   refine run 8 ?_
   obtain ⟨t51, ht51, ho⟩ := bnd ho
   refine wlp ht51 [0, 3, 7, 8] (fun s g => ([(6, vI (s.1)), (9, vI (s.2))], [])) (altX (fun b => (.exit 2, fun g => ([(6, vI (b))], []))) (fun b => (.ret, fun g => ([(4, vI (b.1)), (5, vB (b.2))], [])))) [] SEL (pk []) NE (fun s41 g42 _ ho => ?_) fun g52 => ?_
   ·exact w ho
   ·rcases t51 with b53 | b54
    ·have ho := alt_l ho
     show SRun ..
     exact w ho
    ·have ho := alt_r ho
     cases ho; exact id (lf [] [])
  ·cases ho; exact r_exit (lf [] [])
 ·rcases t55 with b57 | b58
  ·have ho := alt_l ho
   show SRun ..
   exact w ho
  ·have ho := alt_r ho
   cases ho; exact id (ret_of (.inr rfl) (.v rfl (.v rfl .n)) (by decide))⟩
instance i48 {tasks_0 cars_1 d_2} : FI ktab 48 (g_ref08_span tasks_0 cars_1 d_2) [.val (rSlice rTask) tasks_0, .val (rSlice (rSlice (rInt .i64))) cars_1, .val rDuty d_2] (fun out => [.val (rInt .i64) (out)]) := ⟨fun out ho => by
 delta g_ref08_span at ho
 refine fn fun _ _ => ?_
 refine run 11 ?_
 obtain ⟨x1, hx1, ho⟩ := bnd ho
 refine run 2 ?_
 refine xcl ho ?_
 intro y2 hy2 ho
 show SOps ..
 refine run 3 ?_
 refine xal (zv := .agg [.int .i64 0, .int .i64 0, .int .i64 0, .int .i64 0]) (es := [vI (0), vI (0), vI (0), vI (0)]) (by kernel_rfl) fun b3 => ?_
 refine xal (zv := .agg [.int .i64 0, .int .i64 0, .int .i64 0, .int .i64 0]) (es := [vI (0), vI (0), vI (0), vI (0)]) (by kernel_rfl) fun b5 => ?_
 refine run 1 ?_
 refine s_st (st_freezeb (R := rTask) (a := y2.1) 1 [7] (cells_pair (cells_one rfl) (cells_pair (cells_one rfl) (cells_pair (cells_one rfl) (cells_pair (cells_one rfl) cells_unit rfl) rfl) rfl) rfl) rfl rfl ⟨rfl, trivial⟩) ?_
 refine run 1 ?_
 refine s_st (st_freezeb (R := rTask) (a := y2.2) 0 [8] (cells_pair (cells_one rfl) (cells_pair (cells_one rfl) (cells_pair (cells_one rfl) (cells_pair (cells_one rfl) cells_unit rfl) rfl) rfl) rfl) rfl rfl ⟨rfl, trivial⟩) ?_
 refine run 11 ?_
 obtain ⟨x7, hx7, ho⟩ := bnd ho
 refine run 2 ?_
 refine xcl ho ?_
 intro y8 hy8 ho
 show SOps ..
 refine run 3 ?_
 refine xal (zv := .agg [.int .i64 0, .int .i64 0, .int .i64 0, .int .i64 0]) (es := [vI (0), vI (0), vI (0), vI (0)]) (by kernel_rfl) fun b9 => ?_
 refine xal (zv := .agg [.int .i64 0, .int .i64 0, .int .i64 0, .int .i64 0]) (es := [vI (0), vI (0), vI (0), vI (0)]) (by kernel_rfl) fun b11 => ?_
 refine run 1 ?_
 refine s_st (st_freezeb (R := rTask) (a := y8.1) 1 [9] (cells_pair (cells_one rfl) (cells_pair (cells_one rfl) (cells_pair (cells_one rfl) (cells_pair (cells_one rfl) cells_unit rfl) rfl) rfl) rfl) rfl rfl ⟨rfl, trivial⟩) ?_
 refine run 1 ?_
 refine s_st (st_freezeb (R := rTask) (a := y8.2) 0 [10] (cells_pair (cells_one rfl) (cells_pair (cells_one rfl) (cells_pair (cells_one rfl) (cells_pair (cells_one rfl) cells_unit rfl) rfl) rfl) rfl) rfl rfl ⟨rfl, trivial⟩) ?_
 exact w ho⟩
instance i25 {p_0 p_1 p_2 p_3} : FI ktab 25 (g_ref08_Duties p_0 p_1 p_2 p_3) [.val (rSlice rTask) p_0, .val rYard p_1, .val (rSlice (rSlice (rInt .i64))) p_2, .val rWorkRules p_3] (fun out => [.row rDuty (out.1), .val rBool (out.2)]) := ⟨fun out ho => by
 delta g_ref08_Duties at ho
 refine fn fun _ _ => ?_
 refine run 4 ?_
 refine s_st (st_nilrow rDuty) ?_
 refine s_assign (.n rfl) rfl rfl .nilr ?_
 refine run 8 ?_
 refine xcl ho ?_
 intro y2 hy2 ho v3
 show SOps ..
 refine run 6 ?_
 obtain ⟨x5, hx5, ho⟩ := bnd ho
 refine run 6 ?_
 obtain ⟨x6, hx6, ho⟩ := bnd ho
 refine xmk fun v7 => ?_
 refine run 1 ?_
 obtain ⟨x9, hx9, ho⟩ := bnd ho
 refine xmk fun v10 => ?_
 refine run 9 ?_
 obtain ⟨t392, ht392, ho⟩ := bnd ho
 refine wlp ht392 [0, 2, 10, 11, 12, 13] (fun s g => ([(14, vI (s.1))], [(v10, .row (rInt .i64) (s.2.1)), (v7, .row (rInt .i64) (s.2.2)), (v3, .row rDuty (y2))])) (fun b => (.exit 0, fun g => ([], [(v10, .row (rInt .i64) (b.1)), (v7, .row (rInt .i64) (b.2)), (v3, .row rDuty (y2))]))) [] SEL (pk [0, 1, 2]) NE (fun s264 g265 _ ho => ?_) fun g393 => ?_
 ·refine run 7 ?_
  refine wct ho (fun hq266 ho => ?_) fun hq266 ho => ?_
  ·refine run 7 ?_
   obtain ⟨x267, hx267, ho⟩ := bnd ho
   refine run 8 ?_
   obtain ⟨t390, ht390, ho⟩ := bnd ho
   refine wlp ht390 [0, 2, 10, 11, 12, 13, 14] (fun s g => ([(15, vI (s.1))], [(v10, .row (rInt .i64) (s.2.1)), (v7, .row (rInt .i64) (s.2.2)), (v3, .row rDuty (y2))])) (fun b => (.exit 2, fun g => ([], [(v10, .row (rInt .i64) (b.1)), (v7, .row (rInt .i64) (b.2)), (v3, .row rDuty (y2))]))) [] SEL (pk [0, 1, 2]) NE (fun s348 g349 _ ho => ?_) fun g391 => ?_
   ·refine run 8 ?_
    refine wct ho (fun hq350 ho => ?_) fun hq350 ho => ?_
    ·refine run 8 ?_
     obtain ⟨x351, hx351, ho⟩ := bnd ho
     refine run 2 ?_
     refine xcl ho ?_
     intro y352 hy352 ho
     show SOps ..
     refine run 12 ?_
     refine wbr ho (fun hb356 ho => ?_) fun hb356 ho => ?_
     ·refine run 16 ?_
      refine r_cond (.t rfl) (fun _ => ?_) (fun hq => by cases hq)
      refine run 5 ?_
      cases ho; exact s_nil (lf [] [0, 1, 2])
     ·refine run 7 ?_
      refine wbr ho (fun hb358 ho => ?_) fun hb358 ho => ?_
      ·refine run 9 ?_
       refine r_cond (.t rfl) (fun _ => ?_) (fun hq => by cases hq)
       refine run 5 ?_
       cases ho; exact s_nil (lf [] [0, 1, 2])
      ·refine run 4 ?_
       obtain ⟨x360, hx360, ho⟩ := bnd ho
       refine run 5 ?_
       refine wct ho (fun hq361 ho => ?_) fun hq361 ho => ?_
       ·refine run 5 ?_
        cases ho; exact s_nil (lf [] [0, 1, 2])
       ·refine run 2 ?_
        refine r_draw [5, 12, 18] (by kernel_rfl) ?_
        refine run 4 ?_
        obtain ⟨x362, hx362, ho⟩ := bnd ho
        refine run 7 ?_
        obtain ⟨x363, hx363, ho⟩ := bnd ho
        refine run 6 ?_
        obtain ⟨x364, hx364, ho⟩ := bnd ho
        refine run 2 ?_
        refine xcl ho ?_
        intro y365 hy365 ho
        show SOps ..
        refine run 8 ?_
        obtain ⟨x373, hx373, ho⟩ := bnd ho
        refine run 4 ?_
        refine wbr ho (fun hb374 ho => ?_) fun hb374 ho => ?_
        ·refine run 24 ?_
         refine r_cond (.t rfl) (fun _ => ?_) (fun hq => by cases hq)
         refine run 7 ?_
         obtain ⟨x376, hx376, ho⟩ := bnd ho
         refine run 2 ?_
         obtain ⟨x377, hx377, ho⟩ := bnd ho
         refine run 7 ?_
         cases ho; exact s_nil (lf [] [0, 1, 2])
        ·refine run 3 ?_
         obtain ⟨x378, hx378, ho⟩ := bnd ho
         refine run 5 ?_
         refine wbr ho (fun hb379 ho => ?_) fun hb379 ho => ?_
         ·refine run 16 ?_
          refine r_cond (.t rfl) (fun _ => ?_) (fun hq => by cases hq)
          refine run 7 ?_
          obtain ⟨x381, hx381, ho⟩ := bnd ho
          refine run 2 ?_
          obtain ⟨x382, hx382, ho⟩ := bnd ho
          refine run 7 ?_
          cases ho; exact s_nil (lf [] [0, 1, 2])
         ·refine run 3 ?_
          obtain ⟨x383, hx383, ho⟩ := bnd ho
          refine run 4 ?_
          refine wbr ho (fun hb384 ho => ?_) fun hb384 ho => ?_
          ·refine run 3 ?_
           obtain ⟨x385, hx385, ho⟩ := bnd ho
           refine run 6 ?_
           refine wct ho (fun hq386 ho => ?_) fun hq386 ho => ?_
           ·refine run 7 ?_
            obtain ⟨x387, hx387, ho⟩ := bnd ho
            refine run 2 ?_
            obtain ⟨x388, hx388, ho⟩ := bnd ho
            refine run 7 ?_
            cases ho; exact s_nil (lf [] [0, 1, 2])
           ·refine run 5 ?_
            cases ho; exact s_nil (lf [] [0, 1, 2])
          ·refine run 9 ?_
           refine r_cond (.t rfl) (fun hq => by cases hq) (fun _ => ?_)
           refine run 5 ?_
           cases ho; exact s_nil (lf [] [0, 1, 2])
    ·cases ho; exact r_exit (lf [] [0, 1, 2])
   ·show SRun ..
    refine run 4 ?_
    cases ho; exact s_nil (lf [] [0, 1, 2])
  ·cases ho; exact r_exit (lf [] [0, 1, 2])
 ·show SRun ..
  refine run 6 ?_
  obtain ⟨x394, hx394, ho⟩ := bnd ho
  refine run 4 ?_
  refine wct ho (fun hq395 ho => ?_) fun hq395 ho => ?_
  ·refine run 2 ?_
   refine s_st (st_nilrow rDuty) ?_
   refine s_assign (.n rfl) rfl rfl .nilr ?_
   exact w ho
  ·refine run 3 ?_
   refine s_st (st_nilrow rDuty) ?_
   refine s_assign (.n rfl) rfl rfl .nilr ?_
   refine run 13 ?_
   obtain ⟨t567, ht567, ho⟩ := bnd ho
   refine wlp ht567 [0, 2, 10, 12, 13] (fun s g => ([(20, .raw ((gh g 0))), (21, vI (s.2.1)), (22, vI (s.2.2))], [(v10, .row (rInt .i64) (t392.1)), (v7, .row (rInt .i64) (t392.2)), (v3, .row rDuty (y2)), ((gh g 0), .row rDuty (s.1))])) (fun b => (.exit 4, fun g => ([(20, .raw ((gh g 0)))], [((gh g 0), .row rDuty (b))]))) [.nilslice] SEL (pk [1, 2, 3, 0]) NE (fun s480 g481 _ ho => ?_) fun g568 => ?_
   ·refine run 6 ?_
    refine wct ho (fun hq485 ho => ?_) fun hq485 ho => ?_
    ·refine run 8 ?_
     obtain ⟨t562, ht562, ho⟩ := bnd ho
     refine wlp ht562 [0, 2, 10, 12, 13] (fun s g => ([(20, .raw ((gh g 0))), (21, vI (s.2.1)), (22, vI (s.2.2.1)), (23, vI (s.2.2.2))], [(v10, .row (rInt .i64) (t392.1)), (v7, .row (rInt .i64) (t392.2)), (v3, .row rDuty (y2)), ((gh g 0), .row rDuty (s.1))])) (fun b => (.exit 6, fun g => ([(20, .raw ((gh g 0))), (21, vI (b.2.1)), (22, vI (b.2.2))], [(v10, .row (rInt .i64) (t392.1)), (v7, .row (rInt .i64) (t392.2)), (v3, .row rDuty (y2)), ((gh g 0), .row rDuty (b.1))]))) [(gh g481 0)] SEL (pk [0, 1, 2, 3]) NE (fun s519 g520 _ ho => ?_) fun g563 => ?_
     ·refine run 8 ?_
      refine wct ho (fun hq524 ho => ?_) fun hq524 ho => ?_
      ·refine run 8 ?_
       obtain ⟨x525, hx525, ho⟩ := bnd ho
       refine run 2 ?_
       refine xcl ho ?_
       intro y526 hy526 ho
       show SOps ..
       refine run 12 ?_
       refine wbr ho (fun hb530 ho => ?_) fun hb530 ho => ?_
       ·refine run 16 ?_
        refine r_cond (.t rfl) (fun _ => ?_) (fun hq => by cases hq)
        refine run 5 ?_
        cases ho; exact s_nil (lf [(gh g520 0)] [0, 1, 2, 3])
       ·refine run 7 ?_
        refine wbr ho (fun hb533 ho => ?_) fun hb533 ho => ?_
        ·refine run 9 ?_
         refine r_cond (.t rfl) (fun _ => ?_) (fun hq => by cases hq)
         refine run 5 ?_
         cases ho; exact s_nil (lf [(gh g520 0)] [0, 1, 2, 3])
        ·refine run 4 ?_
         obtain ⟨x536, hx536, ho⟩ := bnd ho
         refine run 5 ?_
         refine wct ho (fun hq537 ho => ?_) fun hq537 ho => ?_
         ·refine run 5 ?_
          cases ho; exact s_nil (lf [(gh g520 0)] [0, 1, 2, 3])
         ·refine run 2 ?_
          refine r_draw [5, 10, 18, 24, 30] (by kernel_rfl) ?_
          refine run 4 ?_
          obtain ⟨x546, hx546, ho⟩ := bnd ho
          refine run 5 ?_
          obtain ⟨x547, hx547, ho⟩ := bnd ho
          refine run 4 ?_
          refine wbr ho (fun hb548 ho => ?_) fun hb548 ho => ?_
          ·refine run 4 ?_
           obtain ⟨x549, hx549, ho⟩ := bnd ho
           refine run 6 ?_
           obtain ⟨x550, hx550, ho⟩ := bnd ho
           refine run 2 ?_
           refine xcl ho ?_
           intro y551 hy551 ho
           show SOps ..
           refine run 3 ?_
           obtain ⟨x552, hx552, ho⟩ := bnd ho
           refine run 5 ?_
           refine wct ho (fun hq553 ho => ?_) fun hq553 ho => ?_
           ·refine run 5 ?_
            obtain ⟨x554, hx554, ho⟩ := bnd ho
            refine run 3 ?_
            obtain ⟨x555, hx555, ho⟩ := bnd ho
            refine xap fun v556 => ?_
            refine run 14 ?_
            cases ho; exact r_exit (lf [v556] [1, 2, 3, 0])
           ·refine run 5 ?_
            cases ho; exact s_nil (lf [(gh g520 0)] [0, 1, 2, 3])
          ·refine run 21 ?_
           refine r_cond (.t rfl) (fun hq => by cases hq) (fun _ => ?_)
           refine run 5 ?_
           cases ho; exact s_nil (lf [(gh g520 0)] [0, 1, 2, 3])
      ·cases ho; exact r_exit (lf [(gh g520 0)] [0, 1, 2, 3])
     ·cases ho; exact id (lf [(gh g563 0)] [0, 1, 2, 3])
    ·cases ho; exact r_exit (lf [(gh g481 0)] [3])
   ·show SRun ..
    exact w ho⟩
instance i5 {p_0 p_1 p_2 p_3} : FI ktab 5 (g_law08_DutyPlans p_0 p_1 p_2 p_3) [.val (rSlice rTask) p_0, .val rYard p_1, .val (rSlice (rSlice (rInt .i64))) p_2, .val rWorkRules p_3] (fun out => [.val rBool (out)]) := ⟨fun out ho => by
 delta g_law08_DutyPlans at ho
 refine fn fun _ _ => ?_
 refine run 8 ?_
 obtain ⟨c7, hc7, ho⟩ := bnd ho
 refine wcx c7 [0, 2, 5, 7] (fun t => (.normal, fun _ => ([(31, vB (t))], []))) SEL ?_ fun _ => ?_
 ·exact w hc7
 ·show SRun ..
  refine wct ho (fun hq14 ho => ?_) fun hq14 ho => ?_
  ·exact w ho
  ·refine run 7 ?_
   refine xcl ho ?_
   intro y16 hy16 ho v17
   show SOps ..
   refine run 8 ?_
   obtain ⟨c24, hc24, ho⟩ := bnd ho
   refine wcx c24 [0, 2, 5, 7, 9, 10] (fun t => (.normal, fun _ => ([(56, vB (t))], [(v17, .row rDuty (y16.1))]))) SEL ?_ fun _ => ?_
   ·have ho := hc24
    refine run 3 ?_
    refine xcl ho ?_
    intro y25 hy25 ho
    show SOps ..
    refine run 2 ?_
    refine wbr ho (fun hb26 ho => ?_) fun hb26 ho => ?_
    ·refine run 11 ?_
     cases ho; exact s_nil (lf [] [0])
    ·refine run 3 ?_
     refine xcl ho ?_
     intro y27 hy27 ho
     show SOps ..
     refine run 3 ?_
     refine wbr ho (fun hb28 ho => ?_) fun hb28 ho => ?_
     ·refine run 4 ?_
      cases ho; exact s_nil (lf [] [0])
     ·refine run 1 ?_
      refine xcl ho ?_
      intro y29 hy29 ho
      show SOps ..
      refine run 2 ?_
      cases ho; exact s_nil (lf [] [0])
   ·show SRun ..
    refine wct ho (fun hq30 ho => ?_) fun hq30 ho => ?_
    ·refine run 1 ?_
     obtain ⟨c34, hc34, ho⟩ := bnd ho
     refine wcx c34 [] (fun t => (.normal, fun _ => ([(8, vB (t))], [(v17, .row rDuty (y16.1))]))) SEL ?_ fun _ => ?_
     ·have ho := hc34
      refine run 4 ?_
      refine wbr ho (fun hb35 ho => ?_) fun hb35 ho => ?_
      ·refine run 5 ?_
       refine wbr ho (fun hb36 ho => ?_) fun hb36 ho => ?_
       ·refine xcl ho ?_
        intro y37 hy37 ho
        show SOps ..
        refine run 2 ?_
        cases ho; exact s_nil (lf [] [0])
       ·refine run 3 ?_
        cases ho; exact s_nil (lf [] [0])
      ·refine run 8 ?_
       cases ho; exact s_nil (lf [] [0])
     ·show SRun ..
      cases ho; exact r_ret (ret_of (.inr rfl) (.v rfl .n) (by decide))
    ·refine run 8 ?_
     refine wct ho (fun hq38 ho => ?_) fun hq38 ho => ?_
     ·refine run 1 ?_
      obtain ⟨c42, hc42, ho⟩ := bnd ho
      refine wcx c42 [] (fun t => (.normal, fun _ => ([(8, vB (t))], [(v17, .row rDuty (y16.1))]))) SEL ?_ fun _ => ?_
      ·have ho := hc42
       refine run 4 ?_
       refine wbr ho (fun hb43 ho => ?_) fun hb43 ho => ?_
       ·refine run 5 ?_
        refine wbr ho (fun hb44 ho => ?_) fun hb44 ho => ?_
        ·refine xcl ho ?_
         intro y45 hy45 ho
         show SOps ..
         refine run 2 ?_
         cases ho; exact s_nil (lf [] [0])
        ·refine run 3 ?_
         cases ho; exact s_nil (lf [] [0])
       ·refine run 8 ?_
        cases ho; exact s_nil (lf [] [0])
      ·show SRun ..
       cases ho; exact r_ret (ret_of (.inr rfl) (.v rfl .n) (by decide))
     ·refine run 7 ?_
      refine xcl ho ?_
      intro y46 hy46 ho v47
      show SOps ..
      refine run 12 ?_
      refine wct ho (fun hq49 ho => ?_) fun hq49 ho => ?_
      ·refine run 1 ?_
       obtain ⟨c53, hc53, ho⟩ := bnd ho
       refine wcx c53 [] (fun t => (.normal, fun _ => ([(8, vB (t))], [(v47, .row rDuty (y46.1)), (v17, .row rDuty (y16.1))]))) SEL ?_ fun _ => ?_
       ·have ho := hc53
        refine run 4 ?_
        refine wbr ho (fun hb54 ho => ?_) fun hb54 ho => ?_
        ·refine run 5 ?_
         refine wbr ho (fun hb55 ho => ?_) fun hb55 ho => ?_
         ·refine xcl ho ?_
          intro y56 hy56 ho
          show SOps ..
          refine run 2 ?_
          cases ho; exact s_nil (lf [] [0, 1])
         ·refine run 3 ?_
          cases ho; exact s_nil (lf [] [0, 1])
        ·refine run 8 ?_
         cases ho; exact s_nil (lf [] [0, 1])
       ·show SRun ..
        cases ho; exact r_ret (ret_of (.inr rfl) (.v rfl .n) (by decide))
      ·refine run 2 ?_
       obtain ⟨c61, hc61, ho⟩ := bnd ho
       refine wcx c61 [] (fun t => (.normal, fun _ => ([(8, vB (t))], [(v47, .row rDuty (y46.1)), (v17, .row rDuty (y16.1))]))) SEL ?_ fun _ => ?_
       ·have ho := hc61
        refine run 4 ?_
        refine wbr ho (fun hb62 ho => ?_) fun hb62 ho => ?_
        ·refine run 2 ?_
         refine xcl ho ?_
         intro y63 hy63 ho
         show SOps ..
         refine run 2 ?_
         refine wbr ho (fun hb64 ho => ?_) fun hb64 ho => ?_
         ·refine xcl ho ?_
          intro y65 hy65 ho
          show SOps ..
          refine run 2 ?_
          cases ho; exact s_nil (lf [] [0, 1])
         ·refine run 3 ?_
          cases ho; exact s_nil (lf [] [0, 1])
        ·refine run 8 ?_
         cases ho; exact s_nil (lf [] [0, 1])
       ·show SRun ..
        cases ho; exact r_ret (ret_of (.inr rfl) (.v rfl .n) (by decide))⟩
end Go.Ai.TabYtdhenjdmpacklaa
