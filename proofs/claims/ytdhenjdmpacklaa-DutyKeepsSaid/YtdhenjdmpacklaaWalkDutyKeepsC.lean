/- Written by program: walks through functions. -/
import Derived.Test.YtdhenjdmpacklaaWalkknownC
namespace Go.Ai.TabYtdhenjdmpacklaa
open Go Go.Ai Go.Ai.Sx Go.Proofs
attribute [local irreducible] SOps
set_option maxRecDepth 100000
set_option maxHeartbeats 4000000
instance i12 {t_0 y_1 most_2} : FI ktab 12 (g_law08_few t_0 y_1 most_2) [.val (rSlice rTask) t_0, .val rYard y_1, vI most_2] (fun out => [.val rBool (out)]) := ⟨fun out ho => by
 delta g_law08_few at ho
 refine fn fun _ _ => ?_
 refine run 7 ?_
 obtain ⟨c2, hc2, ho⟩ := bnd ho
 refine wcx c2 [0, 2, 4] (fun t => (.normal, fun _ => ([(17, vB (t))], []))) SEL ?_ fun _ => ?_
 ·exact w hc2
 ·show SRun ..
  refine wct ho (fun hq4 ho => ?_) fun hq4 ho => ?_
  ·exact w ho
  ·refine run 7 ?_
   obtain ⟨t13, ht13, ho⟩ := bnd ho
   refine wlp ht13 [0, 2, 4] (fun s g => ([(7, vI (s))], [])) (altX (fun b => (.exit 0, fun g => ([], []))) (fun b => (.ret, fun g => ([(6, vB (b))], [])))) [] SEL (pk []) NE (fun s8 g9 _ ho => ?_) fun g14 => ?_
   ·exact w ho
   ·rcases t13 with b15 | b16
    ·have ho := alt_l ho
     show SRun ..
     refine run 1 ?_
     obtain ⟨c19, hc19, ho⟩ := bnd ho
     refine wcx c19 [] (fun t => (.normal, fun _ => ([(6, vB (t))], []))) SEL ?_ fun _ => ?_
     ·exact w hc19
     ·show SRun ..
      cases ho; exact r_ret (ret_of (.inr rfl) (.v rfl .n) (by decide))
    ·have ho := alt_r ho
     cases ho; exact id (ret_of (.inr rfl) (.v rfl .n) (by decide))⟩
instance i42 {x_0 low_1 high_2} : FI ktab 42 (g_ref08_in x_0 low_1 high_2) [vI x_0, vI low_1, vI high_2] (fun out => [.val rBool (out)]) := ⟨fun out ho => by
 delta g_ref08_in at ho
 refine fn fun _ _ => ?_
 refine run 5 ?_
 obtain ⟨c2, hc2, ho⟩ := bnd ho
 refine wcx c2 [] (fun t => (.normal, fun _ => ([(6, vB (t))], []))) SEL ?_ fun _ => ?_
 ·exact w hc2
 ·show SRun ..
  cases ho; exact r_ret (ret_of (.inr rfl) (.v rfl .n) (by decide))⟩
instance i15 {p_0 p_1} : FI ktab 15 (g_ref08_Fine p_0 p_1) [.val (rSlice rTask) p_0, .val rYard p_1] (fun out => [.val rBool (out)]) := ⟨fun out ho => by
 delta g_ref08_Fine at ho
 refine fn fun _ _ => ?_
 refine run 14 ?_
 obtain ⟨c6, hc6, ho⟩ := bnd ho
 refine wcx c6 [0, 3, 5] (fun t => (.normal, fun _ => ([(33, vB (t))], []))) SEL ?_ fun _ => ?_
 ·exact w hc6
 ·show SRun ..
  refine wct ho (fun hq12 ho => ?_) fun hq12 ho => ?_
  ·exact w ho
  ·refine run 7 ?_
   obtain ⟨t69, ht69, ho⟩ := bnd ho
   refine wlp ht69 [] (fun s g => ([(0, .val (rSlice rTask) (p_0)), (3, .val (rPtr rYard) (p_1)), (5, vI ((lenI p_1.2.2.1))), (6, vI (s))], [])) (altX (fun b => (.exit 0, fun g => ([(0, .val (rSlice rTask) (p_0)), (5, vI ((lenI p_1.2.2.1)))], []))) (fun b => (.ret, fun g => ([(4, vB (b))], [])))) [] SEL (pk []) NE (fun s40 g41 _ ho => ?_) fun g70 => ?_
   ·refine run 7 ?_
    refine wct ho (fun hq42 ho => ?_) fun hq42 ho => ?_
    ·refine run 9 ?_
     obtain ⟨x47, hx47, ho⟩ := bnd ho
     refine run 6 ?_
     refine wbr ho (fun hb48 ho => ?_) fun hb48 ho => ?_
     ·refine run 11 ?_
      refine r_cond (.t rfl) (fun _ => ?_) (fun hq => by cases hq)
      exact w ho
     ·refine run 3 ?_
      obtain ⟨x50, hx50, ho⟩ := bnd ho
      refine run 3 ?_
      obtain ⟨x51, hx51, ho⟩ := bnd ho
      refine run 5 ?_
      refine wct ho (fun hq52 ho => ?_) fun hq52 ho => ?_
      ·exact w ho
      ·refine run 6 ?_
       obtain ⟨t65, ht65, ho⟩ := bnd ho
       refine wlp ht65 [0, 3, 5, 6, 48, 49, 50, 51, 52, 53, 54, 55, 56] (fun s g => ([(7, vI (s))], [])) (altX (fun b => (.exit 2, fun g => ([], []))) (fun b => (.ret, fun g => ([(4, vB (b))], [])))) [] SEL (pk []) NE (fun s58 g59 _ ho => ?_) fun g66 => ?_
       ·exact w ho
       ·rcases t65 with b67 | b68
        ·have ho := alt_l ho
         show SRun ..
         exact w ho
        ·have ho := alt_r ho
         cases ho; exact id (lf [] [])
    ·cases ho; exact r_exit (lf [] [])
   ·rcases t69 with b71 | b72
    ·have ho := alt_l ho
     show SRun ..
     refine run 6 ?_
     obtain ⟨t133, ht133, ho⟩ := bnd ho
     refine wlp ht133 [0, 5] (fun s g => ([(8, vI (s))], [])) (altX (fun b => (.exit 4, fun g => ([], []))) (fun b => (.ret, fun g => ([(4, vB (b))], [])))) [] SEL (pk []) NE (fun s102 g103 _ ho => ?_) fun g134 => ?_
     ·refine run 8 ?_
      refine wct ho (fun hq104 ho => ?_) fun hq104 ho => ?_
      ·refine run 7 ?_
       obtain ⟨x105, hx105, ho⟩ := bnd ho
       refine run 2 ?_
       refine xal (zv := .agg [.int .i64 0, .int .i64 0, .int .i64 0, .int .i64 0]) (es := [vI (0), vI (0), vI (0), vI (0)]) (by kernel_rfl) fun b106 => ?_
       refine run 1 ?_
       refine s_st (st_freezeb (R := rTask) (a := x105) 0 [9] (cells_pair (cells_one rfl) (cells_pair (cells_one rfl) (cells_pair (cells_one rfl) (cells_pair (cells_one rfl) cells_unit rfl) rfl) rfl) rfl) rfl rfl ⟨rfl, trivial⟩) ?_
       refine run 7 ?_
       refine xcl ho ?_
       intro y117 hy117 ho
       show SOps ..
       refine run 2 ?_
       refine wbr ho (fun hb118 ho => ?_) fun hb118 ho => ?_
       ·refine run 40 ?_
        refine r_cond (.t rfl) (fun _ => ?_) (fun hq => by cases hq)
        exact w ho
       ·refine run 4 ?_
        refine xcl ho ?_
        intro y120 hy120 ho
        show SOps ..
        refine run 3 ?_
        refine wbr ho (fun hb121 ho => ?_) fun hb121 ho => ?_
        ·refine run 32 ?_
         refine r_cond (.t rfl) (fun _ => ?_) (fun hq => by cases hq)
         exact w ho
        ·refine run 5 ?_
         refine wbr ho (fun hb123 ho => ?_) fun hb123 ho => ?_
         ·refine run 27 ?_
          refine r_cond (.t rfl) (fun _ => ?_) (fun hq => by cases hq)
          exact w ho
         ·refine run 7 ?_
          refine wbr ho (fun hb125 ho => ?_) fun hb125 ho => ?_
          ·refine run 20 ?_
           refine r_cond (.t rfl) (fun _ => ?_) (fun hq => by cases hq)
           exact w ho
          ·refine run 5 ?_
           refine wbr ho (fun hb127 ho => ?_) fun hb127 ho => ?_
           ·refine run 15 ?_
            refine r_cond (.t rfl) (fun _ => ?_) (fun hq => by cases hq)
            exact w ho
           ·refine run 3 ?_
            refine wbr ho (fun hb129 ho => ?_) fun hb129 ho => ?_
            ·exact w ho
            ·refine run 12 ?_
             refine r_cond (.t rfl) (fun hq => by cases hq) (fun _ => ?_)
             exact w ho
      ·cases ho; exact r_exit (lf [] [])
     ·rcases t133 with b135 | b136
      ·have ho := alt_l ho
       show SRun ..
       exact w ho
      ·have ho := alt_r ho
       cases ho; exact id (ret_of (.inr rfl) (.v rfl .n) (by decide))
    ·have ho := alt_r ho
     cases ho; exact id (ret_of (.inr rfl) (.v rfl .n) (by decide))⟩
instance i31 {tasks_0 y_1 a_2 b_3} : FI ktab 31 (g_ref08_Follows tasks_0 y_1 a_2 b_3) [.val (rSlice rTask) tasks_0, .val rYard y_1, vI a_2, vI b_3] (fun out => [.val rBool (out)]) := ⟨fun out ho => by
 delta g_ref08_Follows at ho
 refine fn fun _ _ => ?_
 refine run 11 ?_
 obtain ⟨x1, hx1, ho⟩ := bnd ho
 refine run 3 ?_
 obtain ⟨x2, hx2, ho⟩ := bnd ho
 refine run 4 ?_
 obtain ⟨x3, hx3, ho⟩ := bnd ho
 refine run 3 ?_
 obtain ⟨x4, hx4, ho⟩ := bnd ho
 refine run 5 ?_
 obtain ⟨c9, hc9, ho⟩ := bnd ho
 refine wcx c9 [] (fun t => (.normal, fun _ => ([(8, vB (t))], []))) SEL ?_ fun _ => ?_
 ·exact w hc9
 ·show SRun ..
  cases ho; exact r_ret (ret_of (.inr rfl) (.v rfl .n) (by decide))⟩
instance i21 {cars_0} : FI ktab 21 (g_law08_plans cars_0) [.val (rSlice (rSlice (rInt .i64))) cars_0] (fun out => [.val rBool (out)]) := ⟨fun out ho => by
 delta g_law08_plans at ho
 refine fn fun _ _ => ?_
 refine run 10 ?_
 obtain ⟨t9, ht9, ho⟩ := bnd ho
 refine wlp ht9 [0] (fun s g => ([(3, vI (s))], [])) (altX (fun b => (.exit 0, fun g => ([], []))) (fun b => (.ret, fun g => ([(2, vB (b))], [])))) [] SEL (pk []) NE (fun s4 g5 _ ho => ?_) fun g10 => ?_
 ·exact w ho
 ·rcases t9 with b11 | b12
  ·have ho := alt_l ho
   show SRun ..
   exact w ho
  ·have ho := alt_r ho
   cases ho; exact id (ret_of (.inr rfl) (.v rfl .n) (by decide))⟩
instance i23 {p_0 p_1 p_2} : FI ktab 23 (g_ref08_Plan p_0 p_1 p_2) [.val (rSlice rTask) p_0, .val rYard p_1, .val (rSlice (rSlice (rInt .i64))) p_2] (fun out => [.val rBool (out)]) := ⟨fun out ho => by
 delta g_ref08_Plan at ho
 refine fn fun _ _ => ?_
 refine run 9 ?_
 obtain ⟨x1, hx1, ho⟩ := bnd ho
 refine xmk fun v2 => ?_
 refine run 12 ?_
 obtain ⟨t303, ht303, ho⟩ := bnd ho
 refine wlp ht303 [] (fun s g => ([(0, .val (rSlice rTask) (p_0)), (2, .val (rSlice (rSlice (rInt .i64))) (p_2)), (4, .val (rPtr rYard) (p_1)), (7, .raw v2), (8, vI (s.1)), (9, vI (s.2.1))], [(v2, .row rBool (s.2.2))])) (altX (fun b => (.exit 0, fun g => ([(0, .val (rSlice rTask) (p_0)), (8, vI (b.1))], []))) (fun b => (.ret, fun g => ([(6, vB (b))], [])))) [] SEL (pk [0]) NE (fun s202 g203 _ ho => ?_) fun g304 => ?_
 ·refine run 8 ?_
  refine wct ho (fun hq204 ho => ?_) fun hq204 ho => ?_
  ·refine run 8 ?_
   obtain ⟨x205, hx205, ho⟩ := bnd ho
   refine run 5 ?_
   refine wct ho (fun hq206 ho => ?_) fun hq206 ho => ?_
   ·exact w ho
   ·refine run 7 ?_
    obtain ⟨t287, ht287, ho⟩ := bnd ho
    refine wlp ht287 [0, 2, 4, 7, 9] (fun s g => ([(8, vI (s.1)), (10, vI (s.2.1))], [(v2, .row rBool (s.2.2))])) (altX (fun b => (.exit 2, fun g => ([(8, vI (b.1))], [(v2, .row rBool (b.2))]))) (fun b => (.ret, fun g => ([(6, vB (b.1))], [])))) [] SEL (pk [0]) NE (fun s259 g260 _ ho => ?_) fun g288 => ?_
    ·refine run 6 ?_
     obtain ⟨x261, hx261, ho⟩ := bnd ho
     refine run 5 ?_
     refine wct ho (fun hq262 ho => ?_) fun hq262 ho => ?_
     ·refine run 7 ?_
      obtain ⟨x263, hx263, ho⟩ := bnd ho
      refine run 3 ?_
      obtain ⟨x264, hx264, ho⟩ := bnd ho
      refine run 6 ?_
      refine r_draw [10] (by kernel_rfl) ?_
      refine run 4 ?_
      refine xcl ho ?_
      intro y273 hy273 ho
      show SOps ..
      refine run 2 ?_
      refine wbr ho (fun hb274 ho => ?_) fun hb274 ho => ?_
      ·refine run 25 ?_
       refine r_cond (.t rfl) (fun _ => ?_) (fun hq => by cases hq)
       exact w ho
      ·refine run 2 ?_
       obtain ⟨x276, hx276, ho⟩ := bnd ho
       refine run 4 ?_
       refine wbr ho (fun hb277 ho => ?_) fun hb277 ho => ?_
       ·refine run 19 ?_
        refine r_cond (.t rfl) (fun _ => ?_) (fun hq => by cases hq)
        exact w ho
       ·refine run 3 ?_
        refine wbr ho (fun hb279 ho => ?_) fun hb279 ho => ?_
        ·refine run 4 ?_
         obtain ⟨x280, hx280, ho⟩ := bnd ho
         refine run 4 ?_
         obtain ⟨x281, hx281, ho⟩ := bnd ho
         refine run 3 ?_
         refine xcl ho ?_
         intro y282 hy282 ho
         show SOps ..
         refine run 4 ?_
         refine wct ho (fun hq283 ho => ?_) fun hq283 ho => ?_
         ·exact w ho
         ·refine run 5 ?_
          obtain ⟨x284, hx284, ho⟩ := bnd ho
          refine run 12 ?_
          cases ho; exact s_nil (lf [] [0])
        ·refine run 16 ?_
         refine r_cond (.t rfl) (fun hq => by cases hq) (fun _ => ?_)
         refine run 5 ?_
         obtain ⟨x286, hx286, ho⟩ := bnd ho
         refine run 12 ?_
         cases ho; exact s_nil (lf [] [0])
     ·cases ho; exact r_exit (lf [] [0])
    ·rcases t287 with b289 | b290
     ·have ho := alt_l ho
      show SRun ..
      refine run 5 ?_
      refine wbr ho (fun hb296 ho => ?_) fun hb296 ho => ?_
      ·refine run 2 ?_
       obtain ⟨x297, hx297, ho⟩ := bnd ho
       refine run 2 ?_
       obtain ⟨x298, hx298, ho⟩ := bnd ho
       refine run 5 ?_
       obtain ⟨x299, hx299, ho⟩ := bnd ho
       refine run 2 ?_
       obtain ⟨x300, hx300, ho⟩ := bnd ho
       refine run 5 ?_
       refine wct ho (fun hq301 ho => ?_) fun hq301 ho => ?_
       ·exact w ho
       ·refine run 5 ?_
        cases ho; exact s_nil (lf [] [0])
      ·refine run 16 ?_
       refine r_cond (.t rfl) (fun hq => by cases hq) (fun _ => ?_)
       refine run 5 ?_
       cases ho; exact s_nil (lf [] [0])
     ·have ho := alt_r ho
      cases ho; exact id (lf [] [])
  ·cases ho; exact r_exit (lf [] [])
 ·rcases t303 with b305 | b306
  ·have ho := alt_l ho
   show SRun ..
   exact w ho
  ·have ho := alt_r ho
   cases ho; exact id (ret_of (.inr rfl) (.v rfl .n) (by decide))⟩
instance i24 {w_0} : FI ktab 24 (g_ref08_Rules w_0) [.val rWorkRules w_0] (fun out => [.val rBool (out)]) := ⟨fun out ho => by
 delta g_ref08_Rules at ho
 refine fn fun _ _ => ?_
 refine run 6 ?_
 obtain ⟨c12, hc12, ho⟩ := bnd ho
 refine wcx c12 [] (fun t => (.normal, fun _ => ([(2, vB (t))], []))) SEL ?_ fun _ => ?_
 ·exact w hc12
 ·show SRun ..
  cases ho; exact r_ret (ret_of (.inr rfl) (.v rfl .n) (by decide))⟩
instance i32 {p_0 p_1 p_2 p_3 p_4} : FI ktab 32 (g_duty_Faults p_0 p_1 p_2 p_3 p_4) [.val (rSlice rTask) p_0, .val rYard p_1, .val (rSlice (rSlice (rInt .i64))) p_2, .val rWorkRules p_3, .val rDuty p_4] (fun out => [.row (rInt .i64) (out.1), .val (rInt .i64) (out.2)]) := ⟨fun out ho => by
 delta g_duty_Faults at ho
 refine fn fun _ _ => ?_
 refine run 5 ?_
 refine s_st (st_nilrow (rInt .i64)) ?_
 refine s_assign (.n rfl) rfl rfl .nilr ?_
 refine run 8 ?_
 refine xcl ho ?_
 intro y2 hy2 ho
 show SOps ..
 refine run 8 ?_
 obtain ⟨c5, hc5, ho⟩ := bnd ho
 refine wcx c5 [2, 9, 12] (fun t => (.normal, fun _ => ([(32, vB (t))], [(.nilslice, .row (rInt .i64) ([]))]))) SEL ?_ fun _ => ?_
 ·have ho := hc5
  refine run 4 ?_
  refine wbr ho (fun hb6 ho => ?_) fun hb6 ho => ?_
  ·refine run 6 ?_
   cases ho; exact s_nil (lf [] [0])
  ·refine run 3 ?_
   refine xcl ho ?_
   intro y7 hy7 ho
   show SOps ..
   refine run 2 ?_
   cases ho; exact s_nil (lf [] [0])
 ·show SRun ..
  refine wct ho (fun hq8 ho => ?_) fun hq8 ho => ?_
  ·refine run 2 ?_
   refine s_st (st_nilrow (rInt .i64)) ?_
   refine s_assign (.n rfl) rfl rfl .nilr ?_
   exact w ho
  ·refine run 10 ?_
   obtain ⟨t60, ht60, ho⟩ := bnd ho
   refine wlp ht60 [2, 9, 12, 34, 35] (fun s g => ([(36, vI (s))], [])) (altX (fun b => (.exit 0, fun g => ([], []))) (fun b => (.ret, fun g => ([(10, .raw ((gh g 0))), (11, vI (b.2))], [((gh g 0), .row (rInt .i64) (b.1))])))) [] SEL (pk []) NE (fun s32 g33 _ ho => ?_) fun g61 => ?_
   ·refine run 5 ?_
    refine wct ho (fun hq35 ho => ?_) fun hq35 ho => ?_
    ·refine run 5 ?_
     obtain ⟨x36, hx36, ho⟩ := bnd ho
     refine run 2 ?_
     refine xal (zv := .agg [.int .i64 0, .int .i64 0, .int .i64 0]) (es := [vI (0), vI (0), vI (0)]) (by kernel_rfl) fun b37 => ?_
     refine run 1 ?_
     refine s_st (st_freezeb (R := rDutyPiece) (a := x36) 0 [15] (cells_pair (cells_one rfl) (cells_pair (cells_one rfl) (cells_pair (cells_one rfl) cells_unit rfl) rfl) rfl) rfl rfl ⟨rfl, trivial⟩) ?_
     refine run 8 ?_
     refine xcl ho ?_
     intro y45 hy45 ho
     show SOps ..
     refine run 2 ?_
     refine wbr ho (fun hb46 ho => ?_) fun hb46 ho => ?_
     ·refine run 21 ?_
      refine r_cond (.t rfl) (fun _ => ?_) (fun hq => by cases hq)
      refine run 2 ?_
      refine s_st (st_nilrow (rInt .i64)) ?_
      refine s_assign (.n rfl) rfl rfl .nilr ?_
      refine run 2 ?_
      cases ho; exact r_ret (lf [.nilslice] [0])
     ·refine run 5 ?_
      obtain ⟨x50, hx50, ho⟩ := bnd ho
      refine run 4 ?_
      refine xcl ho ?_
      intro y51 hy51 ho
      show SOps ..
      refine run 3 ?_
      refine wbr ho (fun hb52 ho => ?_) fun hb52 ho => ?_
      ·refine run 8 ?_
       refine r_cond (.t rfl) (fun _ => ?_) (fun hq => by cases hq)
       refine run 2 ?_
       refine s_st (st_nilrow (rInt .i64)) ?_
       refine s_assign (.n rfl) rfl rfl .nilr ?_
       refine run 2 ?_
       cases ho; exact r_ret (lf [.nilslice] [0])
      ·refine run 4 ?_
       refine xcl ho ?_
       intro y56 hy56 ho
       show SOps ..
       refine run 3 ?_
       refine wct ho (fun hq57 ho => ?_) fun hq57 ho => ?_
       ·refine run 2 ?_
        refine s_st (st_nilrow (rInt .i64)) ?_
        refine s_assign (.n rfl) rfl rfl .nilr ?_
        refine run 2 ?_
        cases ho; exact r_ret (lf [.nilslice] [0])
       ·exact w ho
    ·cases ho; exact r_exit (lf [] [])
   ·rcases t60 with b62 | b63
    ·have ho := alt_l ho
     show SRun ..
     refine run 4 ?_
     obtain ⟨p64, hp64, ho⟩ := bnd ho
     refine s_st (st_someptr (n := 69) hp64 rfl) ?_
     refine xcl ho ?_
     intro y65 hy65 ho v66
     exact w ho
    ·have ho := alt_r ho
     cases ho; exact id (ret_of (.inr rfl) (.r 0 rfl rfl (.v rfl .n)) (by decide))⟩
instance i33 {cars_0 d_1} : FI ktab 33 (g_ref08_Duty cars_0 d_1) [.val (rSlice (rSlice (rInt .i64))) cars_0, .val rDuty d_1] (fun out => [.val rBool (out)]) := ⟨fun out ho => by
 delta g_ref08_Duty at ho
 refine fn fun _ _ => ?_
 refine run 11 ?_
 obtain ⟨t39, ht39, ho⟩ := bnd ho
 refine wlp ht39 [0, 3] (fun s g => ([(5, vI (s))], [])) (altX (fun b => (.exit 0, fun g => ([], []))) (fun b => (.ret, fun g => ([(4, vB (b))], [])))) [] SEL (pk []) NE (fun s19 g20 _ ho => ?_) fun g40 => ?_
 ·refine run 9 ?_
  refine wct ho (fun hq21 ho => ?_) fun hq21 ho => ?_
  ·refine run 8 ?_
   obtain ⟨x22, hx22, ho⟩ := bnd ho
   refine run 2 ?_
   refine xal (zv := .agg [.int .i64 0, .int .i64 0, .int .i64 0]) (es := [vI (0), vI (0), vI (0)]) (by kernel_rfl) fun b23 => ?_
   refine run 1 ?_
   refine s_st (st_freezeb (R := rDutyPiece) (a := x22) 0 [6] (cells_pair (cells_one rfl) (cells_pair (cells_one rfl) (cells_pair (cells_one rfl) cells_unit rfl) rfl) rfl) rfl rfl ⟨rfl, trivial⟩) ?_
   refine run 8 ?_
   refine xcl ho ?_
   intro y30 hy30 ho
   show SOps ..
   refine run 2 ?_
   refine wbr ho (fun hb31 ho => ?_) fun hb31 ho => ?_
   ·refine run 23 ?_
    refine r_cond (.t rfl) (fun _ => ?_) (fun hq => by cases hq)
    exact w ho
   ·refine run 5 ?_
    refine wbr ho (fun hb33 ho => ?_) fun hb33 ho => ?_
    ·refine run 18 ?_
     refine r_cond (.t rfl) (fun _ => ?_) (fun hq => by cases hq)
     exact w ho
    ·refine run 7 ?_
     refine wbr ho (fun hb35 ho => ?_) fun hb35 ho => ?_
     ·refine run 11 ?_
      refine r_cond (.t rfl) (fun _ => ?_) (fun hq => by cases hq)
      exact w ho
     ·exact w ho
  ·cases ho; exact r_exit (lf [] [])
 ·rcases t39 with b41 | b42
  ·have ho := alt_l ho
   show SRun ..
   exact w ho
  ·have ho := alt_r ho
   cases ho; exact id (ret_of (.inr rfl) (.v rfl .n) (by decide))⟩
instance i35 {p_0 p_1 p_2 p_3 p_4} : FI ktab 35 (g_law08_count p_0 p_1 p_2 p_3 p_4) [.val (rSlice rTask) p_0, .val rYard p_1, .val (rSlice (rSlice (rInt .i64))) p_2, .val rWorkRules p_3, .val (rSlice rDuty) p_4] (fun out => [.val (rInt .i64) (out.1), .val rBool (out.2)]) := ⟨fun out ho => by
 delta g_law08_count at ho
 refine fn fun _ _ => ?_
 refine run 11 ?_
 obtain ⟨x1, hx1, ho⟩ := bnd ho
 refine xmk fun v2 => ?_
 refine run 8 ?_
 obtain ⟨t279, ht279, ho⟩ := bnd ho
 refine wlp ht279 [0, 2, 4, 6, 8, 12] (fun s g => ([(13, vI (s.1))], [(v2, .row (rInt .i64) (s.2))])) (altX (fun b => (.exit 0, fun g => ([], [(v2, .row (rInt .i64) (b))]))) (fun b => (.ret, fun g => ([(10, vI (b.1)), (11, vB (b.2.1))], [])))) [] SEL (pk [0]) NE (fun s186 g187 _ ho => ?_) fun g280 => ?_
 ·refine run 8 ?_
  refine wct ho (fun hq188 ho => ?_) fun hq188 ho => ?_
  ·refine run 9 ?_
   obtain ⟨x189, hx189, ho⟩ := bnd ho
   refine run 2 ?_
   refine xcl ho ?_
   intro y190 hy190 ho
   show SOps ..
   refine run 2 ?_
   refine wct ho (fun hq191 ho => ?_) fun hq191 ho => ?_
   ·exact w ho
   ·refine run 9 ?_
    obtain ⟨x192, hx192, ho⟩ := bnd ho
    refine run 2 ?_
    refine xcl ho ?_
    intro y193 hy193 ho v194
    show SOps ..
    refine run 12 ?_
    refine wbr ho (fun hb197 ho => ?_) fun hb197 ho => ?_
    ·refine run 5 ?_
     refine r_cond (.t rfl) (fun _ => ?_) (fun hq => by cases hq)
     exact w ho
    ·refine run 5 ?_
     refine wct ho (fun hq199 ho => ?_) fun hq199 ho => ?_
     ·exact w ho
     ·refine run 6 ?_
      obtain ⟨t277, ht277, ho⟩ := bnd ho
      refine wlp ht277 [0, 2, 4, 6, 8, 12, 13, 51, 52, 53] (fun s g => ([(16, vI (s.1))], [(v194, .row (rInt .i64) (y193.1)), (v2, .row (rInt .i64) (s.2))])) (fun b => (.exit 2, fun g => ([], [(v194, .row (rInt .i64) (y193.1)), (v2, .row (rInt .i64) (b))]))) [] SEL (pk [0, 1]) NE (fun s250 g251 _ ho => ?_) fun g278 => ?_
      ·refine run 6 ?_
       obtain ⟨x252, hx252, ho⟩ := bnd ho
       refine run 6 ?_
       refine wct ho (fun hq253 ho => ?_) fun hq253 ho => ?_
       ·refine run 7 ?_
        obtain ⟨x254, hx254, ho⟩ := bnd ho
        refine run 4 ?_
        obtain ⟨x255, hx255, ho⟩ := bnd ho
        refine run 2 ?_
        refine xal (zv := .agg [.int .i64 0, .int .i64 0, .int .i64 0]) (es := [vI (0), vI (0), vI (0)]) (by kernel_rfl) fun b256 => ?_
        refine run 1 ?_
        refine s_st (st_freezeb (R := rDutyPiece) (a := x255) 0 [17] (cells_pair (cells_one rfl) (cells_pair (cells_one rfl) (cells_pair (cells_one rfl) cells_unit rfl) rfl) rfl) rfl rfl ⟨rfl, trivial⟩) ?_
        refine run 8 ?_
        obtain ⟨t275, ht275, ho⟩ := bnd ho
        refine wlp ht275 [0, 2, 4, 6, 8, 12, 13, 16, 17, 51, 52, 53] (fun s g => ([(18, vI (s.1))], [(v194, .row (rInt .i64) (y193.1)), (v2, .row (rInt .i64) (s.2))])) (fun b => (.exit 4, fun g => ([], [(v194, .row (rInt .i64) (y193.1)), (v2, .row (rInt .i64) (b))]))) [] SEL (pk [0, 1]) NE (fun s268 g269 _ ho => ?_) fun g276 => ?_
        ·refine run 8 ?_
         refine wct ho (fun hq270 ho => ?_) fun hq270 ho => ?_
         ·refine run 8 ?_
          obtain ⟨x271, hx271, ho⟩ := bnd ho
          refine run 3 ?_
          obtain ⟨x272, hx272, ho⟩ := bnd ho
          refine run 2 ?_
          obtain ⟨x273, hx273, ho⟩ := bnd ho
          refine run 3 ?_
          obtain ⟨x274, hx274, ho⟩ := bnd ho
          refine run 7 ?_
          cases ho; exact s_nil (lf [] [0, 1])
         ·cases ho; exact r_exit (lf [] [0, 1])
        ·show SRun ..
         refine run 4 ?_
         cases ho; exact s_nil (lf [] [0, 1])
       ·cases ho; exact r_exit (lf [] [0, 1])
      ·show SRun ..
       refine run 4 ?_
       cases ho; exact s_nil (lf [] [1])
  ·cases ho; exact r_exit (lf [] [0])
 ·rcases t279 with b281 | b282
  ·have ho := alt_l ho
   show SRun ..
   refine run 6 ?_
   obtain ⟨t291, ht291, ho⟩ := bnd ho
   refine wlp ht291 [0, 4, 12] (fun s g => ([(19, vI (s))], [(v2, .row (rInt .i64) (b281))])) (altX (fun b => (.exit 6, fun g => ([], []))) (fun b => (.ret, fun g => ([(10, vI (b.1)), (11, vB (b.2))], [])))) [] SEL (pk [0]) NE (fun s286 g287 _ ho => ?_) fun g292 => ?_
   ·refine run 8 ?_
    refine wct ho (fun hq288 ho => ?_) fun hq288 ho => ?_
    ·refine run 7 ?_
     obtain ⟨x289, hx289, ho⟩ := bnd ho
     refine run 4 ?_
     refine wct ho (fun hq290 ho => ?_) fun hq290 ho => ?_
     ·exact w ho
     ·refine run 5 ?_
      cases ho; exact s_nil (lf [] [0])
    ·cases ho; exact r_exit (lf [] [])
   ·rcases t291 with b293 | b294
    ·have ho := alt_l ho
     show SRun ..
     exact w ho
    ·have ho := alt_r ho
     cases ho; exact id (ret_of (.inr rfl) (.v rfl (.v rfl .n)) (by decide))
  ·have ho := alt_r ho
   cases ho; exact id (ret_of (.inr rfl) (.v rfl (.v rfl .n)) (by decide))⟩
instance i9 {p_0 p_1 p_2 p_3 p_4 p_5} : FI ktab 9 (g_law08_DutyKeeps p_0 p_1 p_2 p_3 p_4 p_5) [.val (rSlice rTask) p_0, .val rYard p_1, .val (rSlice (rSlice (rInt .i64))) p_2, .val rWorkRules p_3, .val (rSlice rDuty) p_4, vI p_5] (fun out => [.val rBool (out)]) := ⟨fun out ho => by
 delta g_law08_DutyKeeps at ho
 refine fn fun _ _ => ?_
 refine run 8 ?_
 obtain ⟨c13, hc13, ho⟩ := bnd ho
 refine wcx c13 [0, 2, 4, 5, 7, 9] (fun t => (.normal, fun _ => ([(63, vB (t))], []))) SEL ?_ fun _ => ?_
 ·exact w hc13
 ·show SRun ..
  refine wct ho (fun hq26 ho => ?_) fun hq26 ho => ?_
  ·exact w ho
  ·refine run 7 ?_
   refine xcl ho ?_
   intro y28 hy28 ho v29
   show SOps ..
   refine run 12 ?_
   refine xcl ho ?_
   intro y31 hy31 ho v32
   show SOps ..
   refine run 13 ?_
   refine xcl ho ?_
   intro y34 hy34 ho
   show SOps ..
   refine run 12 ?_
   refine wct ho (fun hq35 ho => ?_) fun hq35 ho => ?_
   ·exact w ho
   ·refine run 7 ?_
    refine wct ho (fun hq36 ho => ?_) fun hq36 ho => ?_
    ·refine run 1 ?_
     obtain ⟨c40, hc40, ho⟩ := bnd ho
     refine wcx c40 [] (fun t => (.normal, fun _ => ([(12, vB (t))], [(v32, .row (rInt .i64) (y31.1)), (v29, .row rDuty (y28.1))]))) SEL ?_ fun _ => ?_
     ·have ho := hc40
      refine run 4 ?_
      refine wbr ho (fun hb41 ho => ?_) fun hb41 ho => ?_
      ·refine run 4 ?_
       refine wbr ho (fun hb42 ho => ?_) fun hb42 ho => ?_
       ·refine xcl ho ?_
        intro y43 hy43 ho
        show SOps ..
        refine run 2 ?_
        cases ho; exact s_nil (lf [] [0, 1])
       ·refine run 3 ?_
        cases ho; exact s_nil (lf [] [0, 1])
      ·refine run 7 ?_
       cases ho; exact s_nil (lf [] [0, 1])
     ·show SRun ..
      cases ho; exact r_ret (ret_of (.inr rfl) (.v rfl .n) (by decide))
    ·refine run 9 ?_
     refine xcl ho ?_
     intro y44 hy44 ho
     show SOps ..
     refine run 7 ?_
     obtain ⟨c49, hc49, ho⟩ := bnd ho
     refine wcx c49 [0, 2, 5, 7, 9, 13] (fun t => (.normal, fun _ => ([(132, vB (t))], [(v32, .row (rInt .i64) (y31.1)), (v29, .row rDuty (y28.1))]))) SEL ?_ fun _ => ?_
     ·have ho := hc49
      refine run 4 ?_
      refine wbr ho (fun hb50 ho => ?_) fun hb50 ho => ?_
      ·refine run 18 ?_
       cases ho; exact s_nil (lf [] [0, 1])
      ·refine run 6 ?_
       refine wbr ho (fun hb51 ho => ?_) fun hb51 ho => ?_
       ·refine run 12 ?_
        cases ho; exact s_nil (lf [] [0, 1])
       ·refine run 2 ?_
        refine wbr ho (fun hb52 ho => ?_) fun hb52 ho => ?_
        ·refine run 6 ?_
         refine wbr ho (fun hb53 ho => ?_) fun hb53 ho => ?_
         ·refine run 4 ?_
          cases ho; exact s_nil (lf [] [0, 1])
         ·refine run 4 ?_
          cases ho; exact s_nil (lf [] [0, 1])
        ·refine run 10 ?_
         cases ho; exact s_nil (lf [] [0, 1])
     ·show SRun ..
      refine wct ho (fun hq54 ho => ?_) fun hq54 ho => ?_
      ·exact w ho
      ·refine run 34 ?_
       refine xal (zv := .agg [.int .i64 0, .int .i64 0, .int .i64 0, .int .i64 0, .int .i64 0, .int .i64 0]) (es := [vI (0), vI (0), vI (0), vI (0), vI (0), vI (0)]) (by kernel_rfl) fun b55 => ?_
       refine run 1 ?_
       refine s_st (st_freezeb (R := rWorkRules) (a := (((min 200000 ((w64 (p_3.1 + p_5)))), (min 200000 ((w64 (p_3.2.1 + p_5)))), (min 200000 ((w64 (p_3.2.2.1 + p_5)))), (max 0 ((w64 (p_3.2.2.2.1 - p_5)))), (max 0 ((w64 (p_3.2.2.2.2.1 - p_5)))), (max 0 ((w64 (p_3.2.2.2.2.2.1 - p_5)))), ()) : WorkRules)) 0 [21] (cells_pair (cells_one rfl) (cells_pair (cells_one rfl) (cells_pair (cells_one rfl) (cells_pair (cells_one rfl) (cells_pair (cells_one rfl) (cells_pair (cells_one rfl) cells_unit rfl) rfl) rfl) rfl) rfl) rfl) rfl rfl ⟨rfl, trivial⟩) ?_
       refine run 7 ?_
       refine xcl ho ?_
       intro y57 hy57 ho v58
       show SOps ..
       refine run 7 ?_
       obtain ⟨c63, hc63, ho⟩ := bnd ho
       refine wcx c63 [] (fun t => (.normal, fun _ => ([(12, vB (t))], [(v58, .row rDuty (y57.1)), (v32, .row (rInt .i64) (y31.1)), (v29, .row rDuty (y28.1))]))) SEL ?_ fun _ => ?_
       ·have ho := hc63
        refine run 4 ?_
        refine wbr ho (fun hb64 ho => ?_) fun hb64 ho => ?_
        ·refine run 7 ?_
         refine wbr ho (fun hb65 ho => ?_) fun hb65 ho => ?_
         ·refine xcl ho ?_
          intro y66 hy66 ho
          show SOps ..
          refine run 2 ?_
          cases ho; exact s_nil (lf [] [0, 1, 2])
         ·refine run 3 ?_
          cases ho; exact s_nil (lf [] [0, 1, 2])
        ·refine run 10 ?_
         cases ho; exact s_nil (lf [] [0, 1, 2])
       ·show SRun ..
        cases ho; exact r_ret (ret_of (.inr rfl) (.v rfl .n) (by decide))⟩
end Go.Ai.TabYtdhenjdmpacklaa
