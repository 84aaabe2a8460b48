/- Written by program: walks through functions. -/
import Derived.Test.YtdhenjdmpacklaaM7
namespace Go.Ai.TabYtdhenjdmpacklaa
open Go Go.Ai Go.Ai.Sx Go.Proofs
attribute [local irreducible] SOps
set_option maxRecDepth 100000
set_option maxHeartbeats 4000000
instance i52 {n_0 low_1 high_2} : FI ktab 52 (g_duty_within n_0 low_1 high_2) [vI n_0, vI low_1, vI high_2] (fun out => [.val rBool (out)]) := ⟨fun out ho => by
 delta g_duty_within at ho
 refine fn fun _ _ => ?_
 refine run 5 ?_
 obtain ⟨c2, hc2, ho⟩ := bnd ho
 refine wcx c2 [] (fun t => (.normal, fun _ => ([(6, vB (t))], []))) SEL ?_ fun _ => ?_
 ·exact w hc2
 ·show SRun ..
  cases ho; exact r_ret (ret_of (.inr rfl) (.v rfl .n) (by decide))⟩
instance i80 {s_0 f_1} : FI ktab 80 (g_slices_IndexFunc_int_int s_0 f_1) [.val (rSlice (rInt .i64)) s_0, .val (rFn ktab (Int) (Bool) (fun x => [.val (rInt .i64) (x)]) (fun y => [.val rBool (y)])) f_1] (fun out => [.val (rInt .i64) (out)]) := ⟨fun out ho => by
 delta g_slices_IndexFunc_int_int at ho
 refine fn fun _ _ => ?_
 refine run 12 ?_
 obtain ⟨t11, ht11, ho⟩ := bnd ho
 refine wlp ht11 [0, 1, 7] (fun s g => ([(8, vI (s))], [])) (altX (fun b => (.exit 0, fun g => ([], []))) (fun b => (.ret, fun g => ([(4, vI (b))], [])))) [] SEL (pk []) NE (fun s5 g6 _ ho => ?_) fun g12 => ?_
 ·refine run 5 ?_
  refine wct ho (fun hq7 ho => ?_) fun hq7 ho => ?_
  ·refine run 13 ?_
   obtain ⟨x8, hx8, ho⟩ := bnd ho
   refine run 2 ?_
   obtain ⟨y9, hy9, ho⟩ := bnd ho
   refine s_callv (X := (Int)) (Y := (Bool)) (f := f_1) (x := x8) hy9 (.n rfl) rfl rfl rfl (.t rfl) (.c (.t rfl) .n) ?_
   exact w ho
  ·cases ho; exact r_exit (lf [] [])
 ·rcases t11 with b13 | b14
  ·have ho := alt_l ho
   show SRun ..
   exact w ho
  ·have ho := alt_r ho
   cases ho; exact id (ret_of (.inr rfl) (.v rfl .n) (by decide))⟩
instance i53 {s_0 f_1} : FI ktab 53 (g_slices_ContainsFunc_int_int s_0 f_1) [.val (rSlice (rInt .i64)) s_0, .val (rFn ktab (Int) (Bool) (fun x => [.val (rInt .i64) (x)]) (fun y => [.val rBool (y)])) f_1] (fun out => [.val rBool (out)]) := ⟨fun out ho => by
 delta g_slices_ContainsFunc_int_int at ho
 refine fn fun _ _ => ?_
 exact w ho⟩
instance i54 {d_0} : FI ktab 54 (g_duty_Check_1 d_0) [vI d_0] (fun out => [.val rBool (out)]) := ⟨fun out ho => by
 delta g_duty_Check_1 at ho
 refine fn fun _ _ => ?_
 exact w ho⟩
instance i30 {p_0 p_1} : FI ktab 30 (g_duty_Check p_0 p_1) [.val (rSlice rTask) p_0, .val rYard p_1] (fun out => [.val (rInt .i64) (out)]) := ⟨fun out ho => by
 delta g_duty_Check at ho
 refine fn fun _ _ => ?_
 refine run 14 ?_
 obtain ⟨c6, hc6, ho⟩ := bnd ho
 refine wcx c6 [0, 3, 5] (fun t => (.normal, fun _ => ([(33, vB (t))], []))) SEL ?_ fun _ => ?_
 ·exact w hc6
 ·show SRun ..
  refine wct ho (fun hq12 ho => ?_) fun hq12 ho => ?_
  ·exact w ho
  ·refine run 10 ?_
   obtain ⟨t41, ht41, ho⟩ := bnd ho
   refine wlp ht41 [0, 5, 35, 36] (fun s g => ([(37, vI (s))], [])) (altX (fun b => (.exit 0, fun g => ([], []))) (fun b => (.ret, fun g => ([(4, vI (b))], [])))) [] SEL (pk []) NE (fun s26 g27 _ ho => ?_) fun g42 => ?_
   ·refine run 5 ?_
    refine wct ho (fun hq28 ho => ?_) fun hq28 ho => ?_
    ·refine run 6 ?_
     obtain ⟨x29, hx29, ho⟩ := bnd ho
     refine run 12 ?_
     refine wbr ho (fun hb34 ho => ?_) fun hb34 ho => ?_
     ·refine run 11 ?_
      refine r_cond (.t rfl) (fun _ => ?_) (fun hq => by cases hq)
      exact w ho
     ·refine run 2 ?_
      obtain ⟨x36, hx36, ho⟩ := bnd ho
      refine run 5 ?_
      refine wbr ho (fun hb37 ho => ?_) fun hb37 ho => ?_
      ·refine run 4 ?_
       refine r_cond (.t rfl) (fun _ => ?_) (fun hq => by cases hq)
       exact w ho
      ·refine run 1 ?_
       obtain ⟨y39, hy39, ho⟩ := bnd ho
       refine s_calll (i53.ok _ hy39) (.v flat_bool .n) rfl (.g rfl rfl (gf0 hb37)) rfl rfl rfl .f (.c (.o (.t rfl)) (.c (.o (.fv (opd_fn (fun x y hf => i54.ok _ hf) rfl))) .n)) ?_
       exact w ho
    ·cases ho; exact r_exit (lf [] [])
   ·rcases t41 with b43 | b44
    ·have ho := alt_l ho
     show SRun ..
     refine run 8 ?_
     obtain ⟨t103, ht103, ho⟩ := bnd ho
     refine wlp ht103 [0, 5, 58, 59] (fun s g => ([(60, vI (s))], [])) (altX (fun b => (.exit 2, fun g => ([], []))) (fun b => (.ret, fun g => ([(4, vI (b))], [])))) [] SEL (pk []) NE (fun s73 g74 _ ho => ?_) fun g104 => ?_
     ·refine run 5 ?_
      refine wct ho (fun hq75 ho => ?_) fun hq75 ho => ?_
      ·refine run 6 ?_
       obtain ⟨x76, hx76, ho⟩ := bnd ho
       refine run 2 ?_
       refine xal (zv := .agg [.int .i64 0, .int .i64 0, .int .i64 0, .int .i64 0]) (es := [vI (0), vI (0), vI (0), vI (0)]) (by kernel_rfl) fun b77 => ?_
       refine run 2 ?_
       refine s_st (st_freezeb (R := rTask) (a := x76) 0 [9] (cells_pair (cells_one rfl) (cells_pair (cells_one rfl) (cells_pair (cells_one rfl) (cells_pair (cells_one rfl) cells_unit rfl) rfl) rfl) rfl) rfl rfl ⟨rfl, trivial⟩) ?_
       refine run 7 ?_
       refine xcl ho ?_
       intro y88 hy88 ho
       show SOps ..
       refine run 2 ?_
       refine wbr ho (fun hb89 ho => ?_) fun hb89 ho => ?_
       ·refine run 36 ?_
        refine r_cond (.t rfl) (fun _ => ?_) (fun hq => by cases hq)
        exact w ho
       ·refine run 4 ?_
        refine xcl ho ?_
        intro y91 hy91 ho
        show SOps ..
        refine run 3 ?_
        refine wbr ho (fun hb92 ho => ?_) fun hb92 ho => ?_
        ·refine run 28 ?_
         refine r_cond (.t rfl) (fun _ => ?_) (fun hq => by cases hq)
         exact w ho
        ·refine run 4 ?_
         refine xcl ho ?_
         intro y94 hy94 ho
         show SOps ..
         refine run 3 ?_
         refine wbr ho (fun hb95 ho => ?_) fun hb95 ho => ?_
         ·refine run 20 ?_
          refine r_cond (.t rfl) (fun _ => ?_) (fun hq => by cases hq)
          exact w ho
         ·refine run 5 ?_
          refine wbr ho (fun hb97 ho => ?_) fun hb97 ho => ?_
          ·refine run 15 ?_
           refine r_cond (.t rfl) (fun _ => ?_) (fun hq => by cases hq)
           exact w ho
          ·refine run 3 ?_
           refine wbr ho (fun hb99 ho => ?_) fun hb99 ho => ?_
           ·exact w ho
           ·refine run 12 ?_
            refine r_cond (.t rfl) (fun hq => by cases hq) (fun _ => ?_)
            exact w ho
      ·cases ho; exact r_exit (lf [] [])
     ·rcases t103 with b105 | b106
      ·have ho := alt_l ho
       show SRun ..
       exact w ho
      ·have ho := alt_r ho
       cases ho; exact id (ret_of (.inr rfl) (.v rfl .n) (by decide))
    ·have ho := alt_r ho
     cases ho; exact id (ret_of (.inr rfl) (.v rfl .n) (by decide))⟩
instance i41 {w_0 a_1 b_2} : FI ktab 41 (g_duty_work_follows w_0 a_1 b_2) [.val (rPtr rduty_work) w_0, vI a_1, vI b_2] (fun out => [.val rBool (out)]) := ⟨fun out ho => by
 delta g_duty_work_follows at ho
 refine fn fun _ _ => ?_
 refine run 11 ?_
 obtain ⟨x1, hx1, ho⟩ := bnd ho
 refine run 7 ?_
 obtain ⟨x2, hx2, ho⟩ := bnd ho
 refine run 2 ?_
 refine xal (zv := .agg [.int .i64 0, .int .i64 0, .int .i64 0, .int .i64 0]) (es := [vI (0), vI (0), vI (0), vI (0)]) (by kernel_rfl) fun b3 => ?_
 refine xal (zv := .agg [.int .i64 0, .int .i64 0, .int .i64 0, .int .i64 0]) (es := [vI (0), vI (0), vI (0), vI (0)]) (by kernel_rfl) fun b5 => ?_
 refine run 1 ?_
 refine s_st (st_freezeb (R := rTask) (a := x1) 1 [7] (cells_pair (cells_one rfl) (cells_pair (cells_one rfl) (cells_pair (cells_one rfl) (cells_pair (cells_one rfl) cells_unit rfl) rfl) rfl) rfl) rfl rfl ⟨rfl, trivial⟩) ?_
 refine run 1 ?_
 refine s_st (st_freezeb (R := rTask) (a := x2) 0 [8] (cells_pair (cells_one rfl) (cells_pair (cells_one rfl) (cells_pair (cells_one rfl) (cells_pair (cells_one rfl) cells_unit rfl) rfl) rfl) rfl) rfl rfl ⟨rfl, trivial⟩) ?_
 refine run 10 ?_
 obtain ⟨x7, hx7, ho⟩ := bnd ho
 refine run 4 ?_
 obtain ⟨x8, hx8, ho⟩ := bnd ho
 refine run 5 ?_
 obtain ⟨c11, hc11, ho⟩ := bnd ho
 refine wcx c11 [] (fun t => (.normal, fun _ => ([(6, vB (t))], []))) SEL ?_ fun _ => ?_
 ·exact w hc11
 ·show SRun ..
  cases ho; exact r_ret (ret_of (.inr rfl) (.v rfl .n) (by decide))⟩
instance i82 {s_0 v_1} : FI ktab 82 (g_slices_Index_int_int s_0 v_1) [.val (rSlice (rInt .i64)) s_0, vI v_1] (fun out => [.val (rInt .i64) (out)]) := ⟨fun out ho => by
 delta g_slices_Index_int_int at ho
 refine fn fun _ _ => ?_
 refine run 12 ?_
 obtain ⟨t9, ht9, ho⟩ := bnd ho
 refine wlp ht9 [0, 1, 7] (fun s g => ([(8, vI (s))], [])) (altX (fun b => (.exit 0, fun g => ([], []))) (fun b => (.ret, fun g => ([(4, vI (b))], [])))) [] SEL (pk []) NE (fun s4 g5 _ ho => ?_) fun g10 => ?_
 ·exact w ho
 ·rcases t9 with b11 | b12
  ·have ho := alt_l ho
   show SRun ..
   exact w ho
  ·have ho := alt_r ho
   cases ho; exact id (ret_of (.inr rfl) (.v rfl .n) (by decide))⟩
instance i58 {s_0 v_1} : FI ktab 58 (g_slices_Contains_int_int s_0 v_1) [.val (rSlice (rInt .i64)) s_0, vI v_1] (fun out => [.val rBool (out)]) := ⟨fun out ho => by
 delta g_slices_Contains_int_int at ho
 refine fn fun _ _ => ?_
 exact w ho⟩
theorem g_duty_work_matched_1_body_ok  {rec : Int → Int → (List Bool) → (List Bool) → duty_work → (List Int) → Option ((Bool) × (List Bool) × (List Int))}  (hrec : ∀ {a_0 : Int} {p_1 : Int} {p_2 : (List Bool)} {p_3 : (List Bool)} {p_4 : duty_work} {p_5 : (List Int)} {out : ((Bool) × (List Bool) × (List Int))}, rec a_0 p_1 p_2 p_3 p_4 p_5 = some out → ∀ (b_3 : Nat) (hv_3_0 : AVal) (b_5 : Nat) (hv_5_0 : AVal), FunM ktab 83 [.val (rInt .i64) a_0, .val (rPtr (rInt .i64)) p_1, .val (rPtr (rSlice rBool)) p_2, .raw (.ptr b_3 0), .val (rPtr (rPtr rduty_work)) p_4, .raw (.ptr b_5 0), .val (rSelfP 83 [.val (rPtr (rInt .i64)) (p_1), .val (rPtr (rSlice rBool)) (p_2), .raw (.ptr b_3 0), .val (rPtr (rPtr rduty_work)) (p_4), .raw (.ptr b_5 0)]) ()] [(.ptr b_3 0, .box [.raw hv_3_0]), (hv_3_0, .row rBool (p_3)), (.ptr b_5 0, .box [.raw hv_5_0]), (hv_5_0, .row (rInt .i64) (p_5))] [.val rBool (out.1)] (fun γ => [(.ptr b_3 0, .box [.raw ((gh γ 0))]), ((gh γ 0), .row rBool (out.2.1)), (.ptr b_5 0, .box [.raw ((gh γ 1))]), ((gh γ 1), .row (rInt .i64) (out.2.2))])) {a_0 : Int} {p_1 : Int} {p_2 : (List Bool)} {p_3 : (List Bool)} {p_4 : duty_work} {p_5 : (List Int)} {out : ((Bool) × (List Bool) × (List Int))} (ho : g_duty_work_matched_1_body rec a_0 p_1 p_2 p_3 p_4 p_5 = some out) (b_3 : Nat) (hv_3_0 : AVal) (b_5 : Nat) (hv_5_0 : AVal) : FunM ktab 83 [.val (rInt .i64) a_0, .val (rPtr (rInt .i64)) p_1, .val (rPtr (rSlice rBool)) p_2, .raw (.ptr b_3 0), .val (rPtr (rPtr rduty_work)) p_4, .raw (.ptr b_5 0), .val (rSelfP 83 [.val (rPtr (rInt .i64)) (p_1), .val (rPtr (rSlice rBool)) (p_2), .raw (.ptr b_3 0), .val (rPtr (rPtr rduty_work)) (p_4), .raw (.ptr b_5 0)]) ()] [(.ptr b_3 0, .box [.raw hv_3_0]), (hv_3_0, .row rBool (p_3)), (.ptr b_5 0, .box [.raw hv_5_0]), (hv_5_0, .row (rInt .i64) (p_5))] [.val rBool (out.1)] (fun γ => [(.ptr b_3 0, .box [.raw ((gh γ 0))]), ((gh γ 0), .row rBool (out.2.1)), (.ptr b_5 0, .box [.raw ((gh γ 1))]), ((gh γ 1), .row (rInt .i64) (out.2.2))]) := by
 refine funm_of (F := Try.f83) (by rfl) (by rfl) (by rfl) (fun C => ?_)
 delta g_duty_work_matched_1_body at ho
 refine run 12 ?_
 obtain ⟨t116, ht116, ho⟩ := bnd ho
 refine wlp ht116 [0, 1, 2, 3, 4, 5, 6] (fun s g => ([(9, vI (s.1))], [(.ptr b_3 0, .box [.raw ((gh g 0))]), (.ptr b_5 0, .box [.raw ((gh g 1))]), ((gh g 0), .row rBool (s.2.1)), ((gh g 1), .row (rInt .i64) (s.2.2))])) (altX (fun b => (.exit 0, fun g => ([], [(.ptr b_3 0, .box [.raw ((gh g 0))]), (.ptr b_5 0, .box [.raw ((gh g 1))]), ((gh g 0), .row rBool (b.1)), ((gh g 1), .row (rInt .i64) (b.2))]))) (fun b => (.ret, fun g => ([(8, vB (b.1))], [(.ptr b_3 0, .box [.raw ((gh g 0))]), (.ptr b_5 0, .box [.raw ((gh g 1))]), ((gh g 0), .row rBool (b.2.1)), ((gh g 1), .row (rInt .i64) (b.2.2))])))) [hv_3_0, hv_5_0] SEL (pk [0, 2, 1, 3]) NE (fun s63 g64 _ ho => ?_) fun g117 => ?_
 ·refine run 7 ?_
  refine wct ho (fun hq73 ho => ?_) fun hq73 ho => ?_
  ·refine run 8 ?_
   obtain ⟨x79, hx79, ho⟩ := bnd ho
   refine run 3 ?_
   refine wbr ho (fun hb80 ho => ?_) fun hb80 ho => ?_
   ·refine run 13 ?_
    refine r_cond (.t rfl) (fun _ => ?_) (fun hq => by cases hq)
    refine run 5 ?_
    cases ho; exact s_nil (lf [(gh g64 0), (gh g64 1)] [0, 1, 2, 3])
   ·refine run 2 ?_
    obtain ⟨x84, hx84, ho⟩ := bnd ho
    refine run 4 ?_
    refine wbr ho (fun hb85 ho => ?_) fun hb85 ho => ?_
    ·refine run 7 ?_
     refine r_cond (.t rfl) (fun _ => ?_) (fun hq => by cases hq)
     refine run 5 ?_
     cases ho; exact s_nil (lf [(gh g64 0), (gh g64 1)] [0, 1, 2, 3])
    ·refine run 3 ?_
     refine xcl ho ?_
     intro y89 hy89 ho
     show SOps ..
     refine run 3 ?_
     refine wct ho (fun hq90 ho => ?_) fun hq90 ho => ?_
     ·refine run 5 ?_
      cases ho; exact s_nil (lf [(gh g64 0), (gh g64 1)] [0, 1, 2, 3])
     ·refine run 5 ?_
      obtain ⟨x93, hx93, ho⟩ := bnd ho
      refine run 4 ?_
      refine r_draw [0, 3, 7, 10] (by kernel_rfl) ?_
      refine run 2 ?_
      obtain ⟨x99, hx99, ho⟩ := bnd ho
      refine run 4 ?_
      refine wbr ho (fun hb100 ho => ?_) fun hb100 ho => ?_
      ·refine run 8 ?_
       refine r_cond (.t rfl) (fun _ => ?_) (fun hq => by cases hq)
       refine run 5 ?_
       obtain ⟨x102, hx102, ho⟩ := bnd ho
       refine run 7 ?_
       cases ho; exact r_ret (lf [(gh g64 0), (gh g64 1)] [0, 1, 2, 3])
      ·refine s_loadself rfl UR108 (.g rfl rfl (gf0 hb100)) rfl rfl (.t rfl) ?_
       refine run 2 ?_
       obtain ⟨x105, hx105, ho⟩ := bnd ho
       refine run 2 ?_
       obtain ⟨y106, hy106, ho⟩ := bnd ho
       refine s_callcd (ps := []) (es := [vI (x105)]) (cs := [.val (rPtr (rInt .i64)) (p_1), .val (rPtr (rSlice rBool)) (p_2), .raw (.ptr b_3 0), .val (rPtr (rPtr rduty_work)) (p_4), .raw (.ptr b_5 0), .val (rSelfP 83 [.val (rPtr (rInt .i64)) (p_1), .val (rPtr (rSlice rBool)) (p_2), .raw (.ptr b_3 0), .val (rPtr (rPtr rduty_work)) (p_4), .raw (.ptr b_5 0)]) ()]) [0, 2, 1, 3] [] (fun _ h => by cases h <;> exact ⟨by kernel_rfl, by kernel_rfl⟩) (hrec hy106 b_3 ((gh g64 0)) b_5 ((gh g64 1))) rfl rfl (by decide) rfl (.g rfl rfl (gf0 hb100)) rfl rfl rfl (.t rfl) (.c (.t rfl) .n) ?_
       intro g107
       show SOps ..
       refine run 2 ?_
       refine wct ho (fun hq108 ho => ?_) fun hq108 ho => ?_
       ·refine run 5 ?_
        obtain ⟨x109, hx109, ho⟩ := bnd ho
        refine run 7 ?_
        cases ho; exact r_ret (lf [(gh g107 0), (gh g107 1)] [0, 2, 1, 3])
       ·refine run 5 ?_
        cases ho; exact s_nil (lf [(gh g107 0), (gh g107 1)] [0, 2, 1, 3])
  ·cases ho; exact r_exit (lf [(gh g64 0), (gh g64 1)] [0, 1, 2, 3])
 ·rcases t116 with b118 | b119
  ·have ho := alt_l ho
   show SRun ..
   refine run 4 ?_
   cases ho; exact r_ret (retm_of [0, 2, 1, 3] [(gh g117 0), (gh g117 1)] (.inr rfl) (.v rfl .n) rfl (by decide))
  ·have ho := alt_r ho
   cases ho; exact id (retm_of [0, 2, 1, 3] [(gh g117 0), (gh g117 1)] (.inr rfl) (.v rfl .n) rfl (by decide))
theorem g_duty_work_matched_1_ok   {k : Nat} {a_0 : Int} {p_1 : Int} {p_2 : (List Bool)} {p_3 : (List Bool)} {p_4 : duty_work} {p_5 : (List Int)} {out : ((Bool) × (List Bool) × (List Int))} (ho : g_duty_work_matched_1 k a_0 p_1 p_2 p_3 p_4 p_5 = some out) (b_3 : Nat) (hv_3_0 : AVal) (b_5 : Nat) (hv_5_0 : AVal) : FunM ktab 83 [.val (rInt .i64) a_0, .val (rPtr (rInt .i64)) p_1, .val (rPtr (rSlice rBool)) p_2, .raw (.ptr b_3 0), .val (rPtr (rPtr rduty_work)) p_4, .raw (.ptr b_5 0), .val (rSelfP 83 [.val (rPtr (rInt .i64)) (p_1), .val (rPtr (rSlice rBool)) (p_2), .raw (.ptr b_3 0), .val (rPtr (rPtr rduty_work)) (p_4), .raw (.ptr b_5 0)]) ()] [(.ptr b_3 0, .box [.raw hv_3_0]), (hv_3_0, .row rBool (p_3)), (.ptr b_5 0, .box [.raw hv_5_0]), (hv_5_0, .row (rInt .i64) (p_5))] [.val rBool (out.1)] (fun γ => [(.ptr b_3 0, .box [.raw ((gh γ 0))]), ((gh γ 0), .row rBool (out.2.1)), (.ptr b_5 0, .box [.raw ((gh γ 1))]), ((gh γ 1), .row (rInt .i64) (out.2.2))]) := by
 induction k generalizing a_0 p_1 p_2 p_3 p_4 p_5 out b_3 hv_3_0 b_5 hv_5_0 with
 | zero => cases ho
 | succ k ih => exact g_duty_work_matched_1_body_ok (fun h b_3 hv_3_0 b_5 hv_5_0 => ih h b_3 hv_3_0 b_5 hv_5_0) ho b_3 hv_3_0 b_5 hv_5_0
instance i61 {w_0 fixed_1} : FI ktab 61 (g_duty_work_matched w_0 fixed_1) [.val (rPtr rduty_work) w_0, .val (rSlice (rInt .i64)) fixed_1] (fun out => [.val (rInt .i64) (out)]) := ⟨fun out ho => by
 delta g_duty_work_matched at ho
 refine fn fun _ _ => ?_
 refine run 12 ?_
 refine xal (zv := .int .i64 0) (es := [vI (0)]) (by kernel_rfl) fun b1 => ?_
 refine run 1 ?_
 refine s_st (st_freezeb (R := (rInt .i64)) (a := (lenI w_0.1)) 0 [5] (cells_one rfl) rfl rfl ⟨rfl, trivial⟩) ?_
 refine run 4 ?_
 obtain ⟨x3, hx3, ho⟩ := bnd ho
 refine xmk fun v4 => ?_
 refine s_st (st_nilrow (rInt .i64)) ?_
 refine xal (zv := .nilslice) (es := [.raw .nilslice]) (by kernel_rfl) fun b7 => ?_
 refine s_storebo 0 2 (U29).sz rfl rfl (by exact Nat.le_of_ble_eq_true rfl) (.n rfl) rfl rfl (.t rfl) (.t rfl) (by rfl) ?_
 refine run 9 ?_
 obtain ⟨t24, ht24, ho⟩ := bnd ho
 refine wlp ht24 [1, 2, 5, 6, 23] (fun s g => ([(24, vI (s.1))], [(.ptr b7 0, .box [.raw ((gh g 0))]), ((gh g 0), .row (rInt .i64) (s.2))])) (fun b => (.exit 0, fun g => ([], [(.ptr b7 0, .box [.raw ((gh g 0))]), ((gh g 0), .row (rInt .i64) (b))]))) [v4] SEL (pk [0, 2]) NE (fun s15 g16 _ ho => ?_) fun g25 => ?_
 ·refine run 5 ?_
  refine wct ho (fun hq20 ho => ?_) fun hq20 ho => ?_
  ·refine run 11 ?_
   obtain ⟨x21, hx21, ho⟩ := bnd ho
   refine run 6 ?_
   cases ho; exact s_nil (lf [(gh g16 0)] [0, 1])
  ·cases ho; exact r_exit (lf [(gh g16 0)] [0, 1])
 ·show SRun ..
  refine run 7 ?_
  obtain ⟨x27, hx27, ho⟩ := bnd ho
  refine xmk fun v28 => ?_
  refine s_st (st_nilrow rBool) ?_
  refine xal (zv := .nilslice) (es := [.raw .nilslice]) (by kernel_rfl) fun b31 => ?_
  refine s_storebo 0 2 (U24).sz rfl rfl (by exact Nat.le_of_ble_eq_true rfl) (.n rfl) rfl rfl (.t rfl) (.t rfl) (by rfl) ?_
  refine run 9 ?_
  obtain ⟨t55, ht55, ho⟩ := bnd ho
  refine wlp ht55 [1, 2, 5, 6, 9, 33, 34] (fun s g => ([(8, vI (s.1)), (35, vI (s.2.1))], [(.ptr b31 0, .box [.raw ((gh g 0))]), (.ptr b7 0, .box [.raw ((gh g25 0))]), ((gh g25 0), .row (rInt .i64) (t24)), ((gh g 0), .row rBool (s.2.2))])) (fun b => (.exit 2, fun g => ([(8, vI (b.1))], [(.ptr b31 0, .box [.raw ((gh g 0))]), (.ptr b7 0, .box [.raw ((gh g25 0))]), ((gh g25 0), .row (rInt .i64) (t24)), ((gh g 0), .row rBool (b.2))]))) [v28] SEL (pk [0, 3, 4, 2]) NE (fun s43 g44 _ ho => ?_) fun g56 => ?_
  ·refine run 5 ?_
   refine wct ho (fun hq48 ho => ?_) fun hq48 ho => ?_
   ·refine run 5 ?_
    obtain ⟨x49, hx49, ho⟩ := bnd ho
    refine run 10 ?_
    refine wct ho (fun hq50 ho => ?_) fun hq50 ho => ?_
    ·refine run 4 ?_
     obtain ⟨x51, hx51, ho⟩ := bnd ho
     refine run 11 ?_
     cases ho; exact s_nil (lf [(gh g44 0)] [0, 1, 2, 3])
    ·refine run 4 ?_
     cases ho; exact s_nil (lf [(gh g44 0)] [0, 1, 2, 3])
   ·cases ho; exact r_exit (lf [(gh g44 0)] [0, 1, 2, 3])
  ·show SRun ..
   refine run 2 ?_
   refine s_st (st_nilrow rBool) ?_
   refine xal (zv := .nilslice) (es := [.raw .nilslice]) (by kernel_rfl) fun b59 => ?_
   refine run 3 ?_
   refine xal (zv := .nilfunc) (es := [.raw (.nilfunc)]) (by kernel_rfl) fun b61 => ?_
   refine run 3 ?_
   refine s_st (st_freezec 6 3 (q := 0) [] rfl rfl rfl rfl (by rfl) trivial) ?_
   refine s_st (st_freezeb (R := (rSlice rBool)) (a := t55.2) 3 [9] (cells_one rfl) rfl rfl ⟨rfl, trivial⟩) ?_
   refine s_mkclo (.n rfl) rfl rfl .n (.c (.t rfl) (.c (.t rfl) (.c (.t rfl) (.c (.t rfl) (.c (.t rfl) (.c (.t rfl) .n)))))) ?_
   refine s_storeb 0 (UR108).sz rfl (by exact Nat.le_of_ble_eq_true rfl) (.n rfl) rfl rfl (.t rfl) (.t rfl) rfl rfl ?_
   refine s_st (st_freezeg 0 [13] (self_box (g := 83) (cs := [.val (rPtr (rInt .i64)) ((lenI w_0.1)), .val (rPtr (rSlice rBool)) (t55.2), .raw (.ptr b59 0), .val (rPtr (rPtr rduty_work)) (w_0), .raw (.ptr b7 0)]) rfl) rfl rfl ⟨rfl, trivial⟩) ?_
   refine run 9 ?_
   obtain ⟨t102, ht102, ho⟩ := bnd ho
   refine wlp ht102 [5, 12, 13] (fun s g => ([(8, vI (s.1)), (14, vI (s.2.1))], [(.ptr b59 0, .box [.raw ((gh g 0))]), (.ptr b7 0, .box [.raw ((gh g 1))]), ((gh g 0), .row rBool (s.2.2.1)), ((gh g 1), .row (rInt .i64) (s.2.2.2))])) (fun b => (.exit 4, fun g => ([(8, vI (b.1))], []))) [.nilslice, (gh g25 0)] SEL (pk [0, 2, 1, 3]) NE (fun s81 g82 _ ho => ?_) fun g103 => ?_
   ·refine run 7 ?_
    refine wct ho (fun hq89 ho => ?_) fun hq89 ho => ?_
    ·refine run 6 ?_
     obtain ⟨x90, hx90, ho⟩ := bnd ho
     refine xmk fun v91 => ?_
     refine s_storebo 1 0 (U24).sz rfl rfl (by exact Nat.le_of_ble_eq_true rfl) (.n rfl) rfl rfl (.t rfl) (.t rfl) (by rfl) ?_
     refine run 3 ?_
     refine s_loadself rfl UR108 (.n rfl) rfl rfl (.t rfl) ?_
     refine run 1 ?_
     obtain ⟨y93, hy93, ho⟩ := bnd ho
     refine s_callcd (ps := []) (es := [vI (s81.2.1)]) (cs := [.val (rPtr (rInt .i64)) ((lenI w_0.1)), .val (rPtr (rSlice rBool)) (t55.2), .raw (.ptr b59 0), .val (rPtr (rPtr rduty_work)) (w_0), .raw (.ptr b7 0), .val (rSelfP 83 [.val (rPtr (rInt .i64)) ((lenI w_0.1)), .val (rPtr (rSlice rBool)) (t55.2), .raw (.ptr b59 0), .val (rPtr (rPtr rduty_work)) (w_0), .raw (.ptr b7 0)]) ()]) [1, 0, 2, 4] [3] (fun _ h => by cases h) (g_duty_work_matched_1_ok hy93 b59 v91 b7 ((gh g82 1))) rfl rfl (by decide) rfl (.n rfl) rfl rfl rfl (.t rfl) (.c (.t rfl) .n) ?_
     intro g94
     show SOps ..
     refine run 1 ?_
     refine wct ho (fun hq95 ho => ?_) fun hq95 ho => ?_
     ·refine run 9 ?_
      cases ho; exact s_nil (lf [(gh g94 0), (gh g94 1)] [0, 2, 1, 3])
     ·refine run 5 ?_
      cases ho; exact s_nil (lf [(gh g94 0), (gh g94 1)] [0, 2, 1, 3])
    ·cases ho; exact r_exit (lf [(gh g82 0), (gh g82 1)] [])
   ·show SRun ..
    exact w ho⟩
instance i62 {s_0} : FI ktab 62 (g_slices_Clone_int_int s_0) [.val (rSlice (rInt .i64)) s_0] (fun out => [.row (rInt .i64) out]) := ⟨fun out ho => by
 delta g_slices_Clone_int_int at ho
 refine fn fun _ _ => ?_
 refine run 2 ?_
 refine s_st (st_nilrow (rInt .i64)) ?_
 refine s_assign (.n rfl) rfl rfl .nilr ?_
 refine run 5 ?_
 refine s_isnil S29 (.n rfl) rfl rfl (.t rfl) (fun he => ?_) ?_
 ·subst he
  have e : out = [] := by simp [appO] at ho; first | exact ho | exact ho.symm
  subst e
  refine run 1 ?_
  refine r_cond (.t rfl) (fun _ => ?_) (fun hq => by cases hq)
  refine run 2 ?_
  refine s_st (st_nilrow (rInt .i64)) ?_
  refine s_assign (.n rfl) rfl rfl .nilr ?_
  refine run 1 ?_
  exact r_ret (ret_of (.inr rfl) (.r 0 rfl rfl .n) (by decide))
 ·refine run 1 ?_
  refine r_cond (.t rfl) (fun hq => by cases hq) (fun _ => ?_)
  refine run 3 ?_
  refine s_bso (R := (rInt .i64)) S29 Y3 (.n rfl) rfl rfl (Elts.n (R := (rInt .i64))) rfl (by decide) ?_
  intro v1
  refine run 1 ?_
  refine xap fun v2 => ?_
  refine run 2 ?_
  exact r_ret (ret_of (.inr rfl) (.r 0 rfl rfl .n) (by decide))⟩
instance i39 {w_0} : FI ktab 39 (g_duty_work_followers w_0) [.val (rPtr rduty_work) w_0] (fun out => [.row (rInt .i64) (out)]) := ⟨fun out ho => by
 delta g_duty_work_followers at ho
 refine fn fun _ _ => ?_
 refine run 2 ?_
 refine s_st (st_nilrow (rInt .i64)) ?_
 refine s_assign (.n rfl) rfl rfl .nilr ?_
 refine run 1 ?_
 refine r_scope (by exact ret_goto) ?_
 refine run 12 ?_
 obtain ⟨y2, hy2, ho⟩ := bnd ho
 refine s_calll (i61.ok _ hy2) (.v flat_int .n) rfl (.n rfl) rfl rfl rfl .f (.c (.o (.t rfl)) (.c (.o .nil) .n)) ?_
 show SOps ..
 refine run 4 ?_
 refine s_st (st_nilrow (rInt .i64)) ?_
 refine s_assign (.n rfl) rfl rfl .nilr ?_
 refine run 10 ?_
 obtain ⟨t168, ht168, ho⟩ := bnd ho
 refine wlp ht168 [0, 3, 4, 15] (fun s g => ([(5, .raw ((gh g 0))), (16, vI (s.2))], [((gh g 0), .row (rInt .i64) (s.1))])) (fun b => (.exit 0, fun g => ([(5, .raw ((gh g 0)))], [((gh g 0), .row (rInt .i64) (b))]))) [.nilslice] SEL (pk [0]) NE (fun s83 g84 _ ho => ?_) fun g169 => ?_
 ·refine run 5 ?_
  refine wct ho (fun hq88 ho => ?_) fun hq88 ho => ?_
  ·refine run 16 ?_
   obtain ⟨t156, ht156, ho⟩ := bnd ho
   refine wlp ht156 [0, 3, 4, 6, 15, 16] (fun s g => ([(5, .raw ((gh g 0))), (7, vI (s.2))], [((gh g 0), .row (rInt .i64) (s.1))])) (altX (fun b => (.exit 1, fun g => ([(5, .raw ((gh g 0))), (32, vI (b.2.1)), (33, vB (b.2.2.1)), (34, vB (b.2.2.2.1)), (37, .val (rPtr rduty_work) (b.2.2.2.2.1)), (40, vI (b.2.2.2.2.2.1)), (41, .val (rSlice (rInt .i64)) (b.2.2.2.2.2.2.1)), (42, .raw ((gh g 1))), (43, vI (b.2.2.2.2.2.2.2.2.1)), (44, vI (b.2.2.2.2.2.2.2.2.2.1)), (45, vB (b.2.2.2.2.2.2.2.2.2.2))], [((gh g 0), .row (rInt .i64) (b.1)), ((gh g 1), .row (rInt .i64) (b.2.2.2.2.2.2.2.1))]))) (fun b => (.exit 2, fun g => ([(5, .raw ((gh g 0)))], [((gh g 0), .row (rInt .i64) (b))])))) [(gh g84 0)] SEL (pk [0]) NE (fun s117 g118 _ ho => ?_) fun g157 => ?_
   ·refine run 7 ?_
    refine wct ho (fun hq124 ho => ?_) fun hq124 ho => ?_
    ·refine run 8 ?_
     refine xcl ho ?_
     intro y135 hy135 ho
     show SOps ..
     refine run 1 ?_
     refine wbr ho (fun hb136 ho => ?_) fun hb136 ho => ?_
     ·refine run 2 ?_
      refine xcl ho ?_
      intro y137 hy137 ho
      show SOps ..
      refine run 3 ?_
      refine wbr ho (fun hb138 ho => ?_) fun hb138 ho => ?_
      ·refine run 2 ?_
       refine xcl ho ?_
       intro y139 hy139 ho v140
       show SOps ..
       refine run 2 ?_
       obtain ⟨x142, hx142, ho⟩ := bnd ho
       refine xap fun v143 => ?_
       refine xcl ho ?_
       intro y144 hy144 ho
       show SOps ..
       refine run 4 ?_
       refine wct ho (fun hq145 ho => ?_) fun hq145 ho => ?_
       ·refine run 5 ?_
        obtain ⟨x146, hx146, ho⟩ := bnd ho
        refine xap fun v147 => ?_
        refine run 2 ?_
        cases ho; exact r_exit (lf [v147, v143] [0, 1])
       ·refine run 5 ?_
        cases ho; exact s_nil (lf [(gh g118 0)] [1])
      ·refine run 11 ?_
       refine r_cond (.t rfl) (fun hq => by cases hq) (fun _ => ?_)
       refine run 5 ?_
       cases ho; exact s_nil (lf [(gh g118 0)] [0])
     ·refine run 17 ?_
      refine r_cond (.t rfl) (fun hq => by cases hq) (fun _ => ?_)
      refine run 5 ?_
      cases ho; exact s_nil (lf [(gh g118 0)] [0])
    ·cases ho; exact r_exit (lf [(gh g118 0)] [0])
   ·rcases t156 with b158 | b159
    ·have ho := alt_l ho
     show SRun ..
     refine run 3 ?_
     cases ho; exact s_nil (lf [(gh g157 0)] [0])
    ·have ho := alt_r ho
     show SRun ..
     refine run 4 ?_
     obtain ⟨x164, hx164, ho⟩ := bnd ho
     refine xap fun v165 => ?_
     refine run 5 ?_
     cases ho; exact s_nil (lf [v165] [0])
  ·cases ho; exact r_exit (lf [(gh g84 0)] [0])
 ·show SRun ..
  exact w ho⟩
theorem g_duty_Cars_1_body_ok  {rec : Int → (List Bool) → Int → duty_work → (List Bool) → (List Int) → Option ((List Bool) × (List Bool))}  (hrec : ∀ {a_0 : Int} {p_1 : (List Bool)} {p_2 : Int} {p_3 : duty_work} {p_4 : (List Bool)} {p_5 : (List Int)} {out : ((List Bool) × (List Bool))}, rec a_0 p_1 p_2 p_3 p_4 p_5 = some out → ∀ (b_1 : Nat) (hv_1_0 : AVal) (b_4 : Nat) (hv_4_0 : AVal), FunM ktab 40 [.val (rInt .i64) a_0, .raw (.ptr b_1 0), .val (rPtr (rInt .i64)) p_2, .val (rPtr (rPtr rduty_work)) p_3, .raw (.ptr b_4 0), .val (rPtr (rSlice (rInt .i64))) p_5, .val (rSelfP 40 [.raw (.ptr b_1 0), .val (rPtr (rInt .i64)) (p_2), .val (rPtr (rPtr rduty_work)) (p_3), .raw (.ptr b_4 0), .val (rPtr (rSlice (rInt .i64))) (p_5)]) ()] [(.ptr b_1 0, .box [.raw hv_1_0]), (hv_1_0, .row rBool (p_1)), (.ptr b_4 0, .box [.raw hv_4_0]), (hv_4_0, .row rBool (p_4))] [] (fun γ => [(.ptr b_1 0, .box [.raw ((gh γ 0))]), ((gh γ 0), .row rBool (out.1)), (.ptr b_4 0, .box [.raw ((gh γ 1))]), ((gh γ 1), .row rBool (out.2))])) {a_0 : Int} {p_1 : (List Bool)} {p_2 : Int} {p_3 : duty_work} {p_4 : (List Bool)} {p_5 : (List Int)} {out : ((List Bool) × (List Bool))} (ho : g_duty_Cars_1_body rec a_0 p_1 p_2 p_3 p_4 p_5 = some out) (b_1 : Nat) (hv_1_0 : AVal) (b_4 : Nat) (hv_4_0 : AVal) : FunM ktab 40 [.val (rInt .i64) a_0, .raw (.ptr b_1 0), .val (rPtr (rInt .i64)) p_2, .val (rPtr (rPtr rduty_work)) p_3, .raw (.ptr b_4 0), .val (rPtr (rSlice (rInt .i64))) p_5, .val (rSelfP 40 [.raw (.ptr b_1 0), .val (rPtr (rInt .i64)) (p_2), .val (rPtr (rPtr rduty_work)) (p_3), .raw (.ptr b_4 0), .val (rPtr (rSlice (rInt .i64))) (p_5)]) ()] [(.ptr b_1 0, .box [.raw hv_1_0]), (hv_1_0, .row rBool (p_1)), (.ptr b_4 0, .box [.raw hv_4_0]), (hv_4_0, .row rBool (p_4))] [] (fun γ => [(.ptr b_1 0, .box [.raw ((gh γ 0))]), ((gh γ 0), .row rBool (out.1)), (.ptr b_4 0, .box [.raw ((gh γ 1))]), ((gh γ 1), .row rBool (out.2))]) := by
 refine funm_of (F := Try.f40) (by rfl) (by rfl) (by rfl) (fun C => ?_)
 delta g_duty_Cars_1_body at ho
 refine run 5 ?_
 obtain ⟨x1, hx1, ho⟩ := bnd ho
 refine run 3 ?_
 refine wct ho (fun hq2 ho => ?_) fun hq2 ho => ?_
 ·cases ho; exact r_ret (retm_of [0, 1, 2, 3] [hv_1_0, hv_4_0] (.inr rfl) .n rfl (by decide))
 ·refine run 5 ?_
  obtain ⟨x3, hx3, ho⟩ := bnd ho
  refine run 9 ?_
  obtain ⟨t71, ht71, ho⟩ := bnd ho
  refine wlp ht71 [0, 3, 4, 5, 6, 16] (fun s g => ([(17, vI (s.1))], [(.ptr b_1 0, .box [.raw ((gh g 0))]), (.ptr b_4 0, .box [.raw ((gh g 1))]), ((gh g 0), .row rBool (s.2.1)), ((gh g 1), .row rBool (s.2.2))])) (fun b => (.exit 0, fun g => ([], [(.ptr b_1 0, .box [.raw ((gh g 0))]), (.ptr b_4 0, .box [.raw ((gh g 1))]), ((gh g 0), .row rBool (b.1)), ((gh g 1), .row rBool (b.2))]))) [hv_1_0, hv_4_0] SEL (pk [0, 2, 1, 3]) NE (fun s38 g39 _ ho => ?_) fun g72 => ?_
  ·refine run 5 ?_
   refine wct ho (fun hq46 ho => ?_) fun hq46 ho => ?_
   ·refine run 13 ?_
    refine xcl ho ?_
    intro y50 hy50 ho
    show SOps ..
    refine run 1 ?_
    refine wbr ho (fun hb51 ho => ?_) fun hb51 ho => ?_
    ·refine run 2 ?_
     obtain ⟨x52, hx52, ho⟩ := bnd ho
     refine run 5 ?_
     refine wct ho (fun hq53 ho => ?_) fun hq53 ho => ?_
     ·refine run 4 ?_
      obtain ⟨x54, hx54, ho⟩ := bnd ho
      refine run 7 ?_
      obtain ⟨x55, hx55, ho⟩ := bnd ho
      refine run 4 ?_
      refine wct ho (fun hq56 ho => ?_) fun hq56 ho => ?_
      ·refine run 1 ?_
       refine s_loadself rfl UR83 (.n rfl) rfl rfl (.t rfl) ?_
       refine run 2 ?_
       obtain ⟨x57, hx57, ho⟩ := bnd ho
       refine run 2 ?_
       obtain ⟨y58, hy58, ho⟩ := bnd ho
       refine s_callcd (ps := []) (es := [vI (x57)]) (cs := [.raw (.ptr b_1 0), .val (rPtr (rInt .i64)) (p_2), .val (rPtr (rPtr rduty_work)) (p_3), .raw (.ptr b_4 0), .val (rPtr (rSlice (rInt .i64))) (p_5), .val (rSelfP 40 [.raw (.ptr b_1 0), .val (rPtr (rInt .i64)) (p_2), .val (rPtr (rPtr rduty_work)) (p_3), .raw (.ptr b_4 0), .val (rPtr (rSlice (rInt .i64))) (p_5)]) ()]) [0, 2, 1, 3] [] (fun _ h => by cases h <;> exact ⟨by kernel_rfl, by kernel_rfl⟩) (hrec hy58 b_1 ((gh g39 0)) b_4 ((gh g39 1))) rfl rfl (by decide) rfl (.n rfl) rfl rfl rfl (.t rfl) (.c (.t rfl) .n) ?_
       intro g59
       show SOps ..
       refine run 4 ?_
       cases ho; exact s_nil (lf [(gh g59 0), (gh g59 1)] [0, 2, 1, 3])
      ·refine run 4 ?_
       cases ho; exact s_nil (lf [(gh g39 0), (gh g39 1)] [0, 1, 2, 3])
     ·refine run 4 ?_
      cases ho; exact s_nil (lf [(gh g39 0), (gh g39 1)] [0, 1, 2, 3])
    ·refine run 7 ?_
     refine r_cond (.t rfl) (fun hq => by cases hq) (fun _ => ?_)
     refine run 4 ?_
     cases ho; exact s_nil (lf [(gh g39 0), (gh g39 1)] [0, 1, 2, 3])
   ·cases ho; exact r_exit (lf [(gh g39 0), (gh g39 1)] [0, 1, 2, 3])
  ·cases ho; exact id (retm_of [0, 2, 1, 3] [(gh g72 0), (gh g72 1)] (.inl rfl) .n rfl (by decide))
theorem g_duty_Cars_1_ok   {k : Nat} {a_0 : Int} {p_1 : (List Bool)} {p_2 : Int} {p_3 : duty_work} {p_4 : (List Bool)} {p_5 : (List Int)} {out : ((List Bool) × (List Bool))} (ho : g_duty_Cars_1 k a_0 p_1 p_2 p_3 p_4 p_5 = some out) (b_1 : Nat) (hv_1_0 : AVal) (b_4 : Nat) (hv_4_0 : AVal) : FunM ktab 40 [.val (rInt .i64) a_0, .raw (.ptr b_1 0), .val (rPtr (rInt .i64)) p_2, .val (rPtr (rPtr rduty_work)) p_3, .raw (.ptr b_4 0), .val (rPtr (rSlice (rInt .i64))) p_5, .val (rSelfP 40 [.raw (.ptr b_1 0), .val (rPtr (rInt .i64)) (p_2), .val (rPtr (rPtr rduty_work)) (p_3), .raw (.ptr b_4 0), .val (rPtr (rSlice (rInt .i64))) (p_5)]) ()] [(.ptr b_1 0, .box [.raw hv_1_0]), (hv_1_0, .row rBool (p_1)), (.ptr b_4 0, .box [.raw hv_4_0]), (hv_4_0, .row rBool (p_4))] [] (fun γ => [(.ptr b_1 0, .box [.raw ((gh γ 0))]), ((gh γ 0), .row rBool (out.1)), (.ptr b_4 0, .box [.raw ((gh γ 1))]), ((gh γ 1), .row rBool (out.2))]) := by
 induction k generalizing a_0 p_1 p_2 p_3 p_4 p_5 out b_1 hv_1_0 b_4 hv_4_0 with
 | zero => cases ho
 | succ k ih => exact g_duty_Cars_1_body_ok (fun h b_1 hv_1_0 b_4 hv_4_0 => ih h b_1 hv_1_0 b_4 hv_4_0) ho b_1 hv_1_0 b_4 hv_4_0
instance i14 {p_0 p_1} : FI ktab 14 (g_duty_Cars p_0 p_1) [.val (rSlice rTask) p_0, .val rYard p_1] (fun out => [.row (rSlice (rInt .i64)) (out.1), .val rDutyProof (out.2.1), .val (rInt .i64) (out.2.2)]) := ⟨fun out ho => by
 delta g_duty_Cars at ho
 refine fn fun _ _ => ?_
 refine run 3 ?_
 refine s_st (st_nilrow (rSlice (rInt .i64))) ?_
 refine s_assign (.n rfl) rfl rfl .nilr ?_
 refine xal (zv := .agg [.nilslice, .nilslice]) (es := [.val (rSlice (rInt .i64)) ([]), .val (rSlice (rInt .i64)) ([])]) (by kernel_rfl) fun b2 => ?_
 refine run 7 ?_
 refine xcl ho ?_
 intro y4 hy4 ho
 show SOps ..
 refine run 2 ?_
 refine wct ho (fun hq5 ho => ?_) fun hq5 ho => ?_
 ·refine run 3 ?_
  refine s_st (st_nilrow (rSlice (rInt .i64))) ?_
  refine s_assign (.n rfl) rfl rfl .nilr ?_
  refine run 3 ?_
  cases ho; exact r_ret (ret_of (.inr rfl) (.r 0 rfl rfl (.b 1 U31 (cells_pair (cells_one rfl) (cells_pair (cells_one rfl) cells_unit rfl) rfl) rfl rfl (.v rfl .n))) (by decide))
 ·refine run 7 ?_
  refine xal (zv := .nilptr) (es := [.raw (.nilptr)]) (by kernel_rfl) fun b7 => ?_
  refine run 1 ?_
  refine s_st (st_freezeb (R := (rPtr rduty_work)) (a := ((p_0, p_1, ()) : duty_work)) 0 [7] (cells_one rfl) rfl rfl ⟨rfl, trivial⟩) ?_
  refine run 5 ?_
  refine xal (zv := .int .i64 0) (es := [vI (0)]) (by kernel_rfl) fun b9 => ?_
  refine run 1 ?_
  refine s_st (st_freezeb (R := (rInt .i64)) (a := (lenI p_0)) 0 [8] (cells_one rfl) rfl rfl ⟨rfl, trivial⟩) ?_
  refine run 4 ?_
  refine xcl ho ?_
  intro y11 hy11 ho v12
  show SOps ..
  refine run 5 ?_
  obtain ⟨x14, hx14, ho⟩ := bnd ho
  refine xmk fun v15 => ?_
  refine s_st (st_nilrow (rInt .i64)) ?_
  refine xal (zv := .nilslice) (es := [.raw .nilslice]) (by kernel_rfl) fun b18 => ?_
  refine s_storebo 0 2 (U29).sz rfl rfl (by exact Nat.le_of_ble_eq_true rfl) (.n rfl) rfl rfl (.t rfl) (.t rfl) (by rfl) ?_
  refine run 9 ?_
  obtain ⟨t35, ht35, ho⟩ := bnd ho
  refine wlp ht35 [5, 7, 8, 9, 10, 40] (fun s g => ([(41, vI (s.1))], [(.ptr b18 0, .box [.raw ((gh g 0))]), (v12, .row (rInt .i64) (y11)), (.ptr b2 0, .box [.val (rSlice (rInt .i64)) ([]), .val (rSlice (rInt .i64)) ([])]), ((gh g 0), .row (rInt .i64) (s.2))])) (fun b => (.exit 0, fun g => ([], [(.ptr b18 0, .box [.raw ((gh g 0))]), (v12, .row (rInt .i64) (y11)), (.ptr b2 0, .box [.val (rSlice (rInt .i64)) ([]), .val (rSlice (rInt .i64)) ([])]), ((gh g 0), .row (rInt .i64) (b))]))) [v15] SEL (pk [0, 3, 4, 2]) NE (fun s26 g27 _ ho => ?_) fun g36 => ?_
  ·refine run 5 ?_
   refine wct ho (fun hq31 ho => ?_) fun hq31 ho => ?_
   ·refine run 11 ?_
    obtain ⟨x32, hx32, ho⟩ := bnd ho
    refine run 6 ?_
    cases ho; exact s_nil (lf [(gh g27 0)] [0, 1, 2, 3])
   ·cases ho; exact r_exit (lf [(gh g27 0)] [0, 1, 2, 3])
  ·show SRun ..
   refine run 8 ?_
   obtain ⟨t60, ht60, ho⟩ := bnd ho
   refine wlp ht60 [5, 7, 8, 9, 10, 48, 49] (fun s g => ([(50, vI (s.1))], [(.ptr b18 0, .box [.raw ((gh g 0))]), (v12, .row (rInt .i64) (y11)), (.ptr b2 0, .box [.val (rSlice (rInt .i64)) ([]), .val (rSlice (rInt .i64)) ([])]), ((gh g 0), .row (rInt .i64) (s.2))])) (fun b => (.exit 2, fun g => ([], [(.ptr b18 0, .box [.raw ((gh g 0))]), (v12, .row (rInt .i64) (y11)), (.ptr b2 0, .box [.val (rSlice (rInt .i64)) ([]), .val (rSlice (rInt .i64)) ([])]), ((gh g 0), .row (rInt .i64) (b))]))) [(gh g36 0)] SEL (pk [0, 1, 2, 3]) NE (fun s48 g49 _ ho => ?_) fun g61 => ?_
   ·refine run 5 ?_
    refine wct ho (fun hq53 ho => ?_) fun hq53 ho => ?_
    ·refine run 6 ?_
     obtain ⟨x54, hx54, ho⟩ := bnd ho
     refine run 11 ?_
     refine wct ho (fun hq55 ho => ?_) fun hq55 ho => ?_
     ·refine run 4 ?_
      obtain ⟨x56, hx56, ho⟩ := bnd ho
      refine run 6 ?_
      cases ho; exact s_nil (lf [(gh g49 0)] [0, 1, 2, 3])
     ·refine run 4 ?_
      cases ho; exact s_nil (lf [(gh g49 0)] [0, 1, 2, 3])
    ·cases ho; exact r_exit (lf [(gh g49 0)] [0, 1, 2, 3])
   ·show SRun ..
    refine run 2 ?_
    refine s_st (st_nilrow (rSlice (rInt .i64))) ?_
    refine s_assign (.n rfl) rfl rfl .nilr ?_
    refine run 8 ?_
    obtain ⟨t126, ht126, ho⟩ := bnd ho
    refine wlp ht126 [5, 7, 8, 9, 10, 63] (fun s g => ([(14, .raw ((gh g 0))), (64, vI (s.2))], [(.ptr b18 0, .box [.raw ((gh g61 0))]), (v12, .row (rInt .i64) (y11)), (.ptr b2 0, .box [.val (rSlice (rInt .i64)) ([]), .val (rSlice (rInt .i64)) ([])]), ((gh g61 0), .row (rInt .i64) (t60)), ((gh g 0), .row (rSlice (rInt .i64)) (s.1))])) (fun b => (.exit 4, fun g => ([(14, .raw ((gh g 0)))], [(.ptr b18 0, .box [.raw ((gh g61 0))]), (v12, .row (rInt .i64) (y11)), (.ptr b2 0, .box [.val (rSlice (rInt .i64)) ([]), .val (rSlice (rInt .i64)) ([])]), ((gh g61 0), .row (rInt .i64) (t60)), ((gh g 0), .row (rSlice (rInt .i64)) (b))]))) [.nilslice] SEL (pk [1, 2, 3, 4, 0]) NE (fun s92 g93 _ ho => ?_) fun g127 => ?_
    ·refine run 5 ?_
     refine wct ho (fun hq97 ho => ?_) fun hq97 ho => ?_
     ·refine run 13 ?_
      obtain ⟨x98, hx98, ho⟩ := bnd ho
      refine run 4 ?_
      refine wct ho (fun hq99 ho => ?_) fun hq99 ho => ?_
      ·refine run 4 ?_
       cases ho; exact s_nil (lf [(gh g93 0)] [0, 1, 2, 3, 4])
      ·refine run 3 ?_
       refine s_st (st_nilrow (rInt .i64)) ?_
       refine s_assign (.n rfl) rfl rfl .nilr ?_
       refine run 8 ?_
       obtain ⟨t119, ht119, ho⟩ := bnd ho
       refine wlp ht119 [5, 7, 8, 9, 10, 14, 63, 64] (fun s g => ([(16, .raw ((gh g 0))), (17, vI (s.2))], [(.ptr b18 0, .box [.raw ((gh g61 0))]), (v12, .row (rInt .i64) (y11)), (.ptr b2 0, .box [.val (rSlice (rInt .i64)) ([]), .val (rSlice (rInt .i64)) ([])]), ((gh g61 0), .row (rInt .i64) (t60)), ((gh g93 0), .row (rSlice (rInt .i64)) (s92.1)), ((gh g 0), .row (rInt .i64) (s.1))])) (fun b => (.exit 6, fun g => ([(16, .raw ((gh g 0)))], [(.ptr b18 0, .box [.raw ((gh g61 0))]), (v12, .row (rInt .i64) (y11)), (.ptr b2 0, .box [.val (rSlice (rInt .i64)) ([]), .val (rSlice (rInt .i64)) ([])]), ((gh g61 0), .row (rInt .i64) (t60)), ((gh g93 0), .row (rSlice (rInt .i64)) (s92.1)), ((gh g 0), .row (rInt .i64) (b))]))) [.nilslice] SEL (pk [1, 2, 3, 4, 5, 0]) NE (fun s108 g109 _ ho => ?_) fun g120 => ?_
       ·refine run 7 ?_
        refine wct ho (fun hq113 ho => ?_) fun hq113 ho => ?_
        ·refine run 7 ?_
         obtain ⟨x114, hx114, ho⟩ := bnd ho
         refine xap fun v115 => ?_
         refine run 5 ?_
         obtain ⟨x116, hx116, ho⟩ := bnd ho
         refine run 3 ?_
         cases ho; exact s_nil (lf [v115] [1, 2, 3, 4, 5, 0])
        ·cases ho; exact r_exit (lf [(gh g109 0)] [0, 1, 2, 3, 4, 5])
       ·show SRun ..
        refine run 3 ?_
        refine s_st (st_freeze 5 [16, 85] rfl rfl ⟨rfl, rfl, trivial⟩) ?_
        refine run 1 ?_
        obtain ⟨x122, hx122, ho⟩ := bnd ho
        refine xap fun v123 => ?_
        refine run 5 ?_
        cases ho; exact s_nil (lf [v123] [1, 2, 3, 4, 0])
     ·cases ho; exact r_exit (lf [(gh g93 0)] [0, 1, 2, 3, 4])
    ·show SRun ..
     refine run 3 ?_
     obtain ⟨x129, hx129, ho⟩ := bnd ho
     refine xmk fun v130 => ?_
     refine run 1 ?_
     obtain ⟨x132, hx132, ho⟩ := bnd ho
     refine xmk fun v133 => ?_
     refine s_st (st_nilrow rBool) ?_
     refine xal (zv := .nilslice) (es := [.raw .nilslice]) (by kernel_rfl) fun b136 => ?_
     refine s_st (st_nilrow rBool) ?_
     refine xal (zv := .nilslice) (es := [.raw .nilslice]) (by kernel_rfl) fun b139 => ?_
     refine s_storebo 2 5 (U24).sz rfl rfl (by exact Nat.le_of_ble_eq_true rfl) (.n rfl) rfl rfl (.t rfl) (.t rfl) (by rfl) ?_
     refine s_storebo 0 4 (U24).sz rfl rfl (by exact Nat.le_of_ble_eq_true rfl) (.n rfl) rfl rfl (.t rfl) (.t rfl) (by rfl) ?_
     refine run 3 ?_
     refine xal (zv := .nilfunc) (es := [.raw (.nilfunc)]) (by kernel_rfl) fun b141 => ?_
     refine run 3 ?_
     refine s_st (st_freezec 10 7 (q := 0) [] rfl rfl rfl rfl (by rfl) trivial) ?_
     refine s_st (st_freezeb (R := (rSlice (rInt .i64))) (a := t60) 7 [10] (cells_one rfl) rfl rfl ⟨rfl, trivial⟩) ?_
     refine s_mkclo (.n rfl) rfl rfl .n (.c (.t rfl) (.c (.t rfl) (.c (.t rfl) (.c (.t rfl) (.c (.t rfl) (.c (.t rfl) .n)))))) ?_
     refine s_storeb 0 (UR83).sz rfl (by exact Nat.le_of_ble_eq_true rfl) (.n rfl) rfl rfl (.t rfl) (.t rfl) rfl rfl ?_
     refine s_st (st_freezeg 0 [20] (self_box (g := 40) (cs := [.raw (.ptr b136 0), .val (rPtr (rInt .i64)) ((lenI p_0)), .val (rPtr (rPtr rduty_work)) (((p_0, p_1, ()) : duty_work)), .raw (.ptr b139 0), .val (rPtr (rSlice (rInt .i64))) (t60)]) rfl) rfl rfl ⟨rfl, trivial⟩) ?_
     refine run 8 ?_
     obtain ⟨t176, ht176, ho⟩ := bnd ho
     refine wlp ht176 [5, 8, 9, 14, 18, 19, 20, 94] (fun s g => ([(95, vI (s.1))], [(.ptr b139 0, .box [.raw ((gh g 0))]), (.ptr b136 0, .box [.raw ((gh g 1))]), (v12, .row (rInt .i64) (y11)), (.ptr b2 0, .box [.val (rSlice (rInt .i64)) ([]), .val (rSlice (rInt .i64)) ([])]), ((gh g127 0), .row (rSlice (rInt .i64)) (t126)), ((gh g 0), .row rBool (s.2.1)), ((gh g 1), .row rBool (s.2.2))])) (fun b => (.exit 8, fun g => ([], [(.ptr b139 0, .box [.raw ((gh g 0))]), (.ptr b136 0, .box [.raw ((gh g 1))]), (.ptr b2 0, .box [.val (rSlice (rInt .i64)) ([]), .val (rSlice (rInt .i64)) ([])]), ((gh g127 0), .row (rSlice (rInt .i64)) (t126)), ((gh g 0), .row rBool (b.1)), ((gh g 1), .row rBool (b.2))]))) [v133, v130] SEL (pk [0, 2, 6, 7, 8, 4, 5]) NE (fun s157 g158 _ ho => ?_) fun g177 => ?_
     ·refine run 5 ?_
      refine wct ho (fun hq165 ho => ?_) fun hq165 ho => ?_
      ·refine run 9 ?_
       refine r_draw [3] (by kernel_rfl) ?_
       refine run 2 ?_
       obtain ⟨x166, hx166, ho⟩ := bnd ho
       refine run 5 ?_
       refine wct ho (fun hq167 ho => ?_) fun hq167 ho => ?_
       ·refine run 1 ?_
        refine s_loadself rfl UR83 (.n rfl) rfl rfl (.t rfl) ?_
        refine run 1 ?_
        obtain ⟨y168, hy168, ho⟩ := bnd ho
        refine s_callcd (ps := []) (es := [vI (s157.1)]) (cs := [.raw (.ptr b136 0), .val (rPtr (rInt .i64)) ((lenI p_0)), .val (rPtr (rPtr rduty_work)) (((p_0, p_1, ()) : duty_work)), .raw (.ptr b139 0), .val (rPtr (rSlice (rInt .i64))) (t60), .val (rSelfP 40 [.raw (.ptr b136 0), .val (rPtr (rInt .i64)) ((lenI p_0)), .val (rPtr (rPtr rduty_work)) (((p_0, p_1, ()) : duty_work)), .raw (.ptr b139 0), .val (rPtr (rSlice (rInt .i64))) (t60)]) ()]) [1, 6, 0, 5] [2, 3, 4] (fun _ h => by cases h) (g_duty_Cars_1_ok hy168 b136 ((gh g158 1)) b139 ((gh g158 0))) rfl rfl (by decide) rfl (.n rfl) rfl rfl rfl (.t rfl) (.c (.t rfl) .n) ?_
        intro g169
        show SOps ..
        refine run 4 ?_
        cases ho; exact s_nil (lf [(gh g169 1), (gh g169 0)] [2, 0, 4, 5, 6, 3, 1])
       ·refine run 4 ?_
        cases ho; exact s_nil (lf [(gh g158 0), (gh g158 1)] [0, 1, 2, 3, 4, 5, 6])
      ·cases ho; exact r_exit (lf [(gh g158 0), (gh g158 1)] [0, 1, 3, 4, 5, 6])
     ·show SRun ..
      refine run 2 ?_
      refine s_st (st_nilrow (rInt .i64)) ?_
      refine s_st (st_nilrow (rInt .i64)) ?_
      refine xal (zv := .agg [.nilslice, .nilslice]) (es := [.raw .nilslice, .raw .nilslice]) (by kernel_rfl) fun b182 => ?_
      refine run 8 ?_
      obtain ⟨t245, ht245, ho⟩ := bnd ho
      refine wlp ht245 [5, 14, 18, 19, 22, 108] (fun s g => ([(109, vI (s.1))], [(.ptr b182 0, .box [.raw ((gh g 1)), .raw ((gh g 0))]), (.ptr b139 0, .box [.raw ((gh g177 0))]), (.ptr b136 0, .box [.raw ((gh g177 1))]), (.ptr b2 0, .box [.val (rSlice (rInt .i64)) ([]), .val (rSlice (rInt .i64)) ([])]), ((gh g127 0), .row (rSlice (rInt .i64)) (t126)), ((gh g177 0), .row rBool (t176.1)), ((gh g177 1), .row rBool (t176.2)), ((gh g 0), .row (rInt .i64) (s.2.1)), ((gh g 1), .row (rInt .i64) (s.2.2))])) (fun b => (.exit 10, fun g => ([], [(.ptr b182 0, .box [.raw ((gh g 0)), .raw ((gh g 1))]), (.ptr b2 0, .box [.val (rSlice (rInt .i64)) ([]), .val (rSlice (rInt .i64)) ([])]), ((gh g127 0), .row (rSlice (rInt .i64)) (t126)), ((gh g 0), .row (rInt .i64) (b.1)), ((gh g 1), .row (rInt .i64) (b.2))]))) [.nilslice, .nilslice] SEL (pk [0, 3, 4, 5, 6, 7, 8, 1, 2]) NE (fun s214 g215 _ ho => ?_) fun g246 => ?_
      ·refine run 5 ?_
       refine wct ho (fun hq222 ho => ?_) fun hq222 ho => ?_
       ·refine run 13 ?_
        obtain ⟨x223, hx223, ho⟩ := bnd ho
        refine run 4 ?_
        refine wct ho (fun hq224 ho => ?_) fun hq224 ho => ?_
        ·refine run 5 ?_
         obtain ⟨x225, hx225, ho⟩ := bnd ho
         refine xap fun v226 => ?_
         refine run 1 ?_
         refine s_storebo 1 0 (U29).sz rfl rfl (by exact Nat.le_of_ble_eq_true rfl) (.n rfl) rfl rfl (.t rfl) (.t rfl) (by rfl) ?_
         refine run 5 ?_
         obtain ⟨x227, hx227, ho⟩ := bnd ho
         refine run 3 ?_
         refine wct ho (fun hq228 ho => ?_) fun hq228 ho => ?_
         ·refine run 5 ?_
          obtain ⟨x229, hx229, ho⟩ := bnd ho
          refine xap fun v230 => ?_
          refine run 1 ?_
          refine s_storebo 2 0 (U29).sz rfl rfl (by exact Nat.le_of_ble_eq_true rfl) (.n rfl) rfl rfl (.t rfl) (.t rfl) (by rfl) ?_
          refine run 4 ?_
          cases ho; exact s_nil (lf [v230, v226] [2, 3, 4, 5, 6, 7, 8, 0, 1])
         ·refine run 4 ?_
          cases ho; exact s_nil (lf [(gh g215 0), v226] [1, 2, 3, 4, 5, 6, 7, 8, 0])
        ·refine run 5 ?_
         obtain ⟨x235, hx235, ho⟩ := bnd ho
         refine run 3 ?_
         refine wct ho (fun hq236 ho => ?_) fun hq236 ho => ?_
         ·refine run 5 ?_
          obtain ⟨x237, hx237, ho⟩ := bnd ho
          refine xap fun v238 => ?_
          refine run 1 ?_
          refine s_storebo 1 0 (U29).sz rfl rfl (by exact Nat.le_of_ble_eq_true rfl) (.n rfl) rfl rfl (.t rfl) (.t rfl) (by rfl) ?_
          refine run 4 ?_
          cases ho; exact s_nil (lf [v238, (gh g215 1)] [1, 2, 3, 4, 5, 6, 7, 0, 8])
         ·refine run 4 ?_
          cases ho; exact s_nil (lf [(gh g215 0), (gh g215 1)] [0, 1, 2, 3, 4, 5, 6, 7, 8])
       ·cases ho; exact r_exit (lf [(gh g215 1), (gh g215 0)] [0, 3, 4, 8, 7])
      ·show SRun ..
       refine run 1 ?_
       refine r_draw [1] (by kernel_rfl) ?_
       refine run 1 ?_
       refine s_st (st_freezec 3 0 (q := 0) [] rfl rfl rfl rfl (by rfl) trivial) ?_
       refine s_st (st_freezec 3 0 (q := 1) [] rfl rfl rfl rfl (by rfl) trivial) ?_
       refine s_loadbs (R := rDutyProof) (a := (t245.1, t245.2, ())) 0 (fun _ h => by cases h <;> rfl) U31 (cells_pair (cells_one rfl) (cells_pair (cells_one rfl) cells_unit rfl) rfl) (.n rfl) rfl rfl (.t rfl) rfl ?_
       refine run 4 ?_
       cases ho; exact r_ret (ret_of (.inr rfl) (.r 2 rfl rfl (.b 1 U31 (cells_pair (cells_one rfl) (cells_pair (cells_one rfl) cells_unit rfl) rfl) rfl rfl (.v rfl .n))) (by decide))⟩
instance i20 {a_0 b_1} : FI ktab 20 (g_ref08_Same a_0 b_1) [.val (rSlice (rInt .i64)) a_0, .val (rSlice (rInt .i64)) b_1] (fun out => [.val rBool (out)]) := ⟨fun out ho => by
 delta g_ref08_Same at ho
 refine fn fun _ _ => ?_
 refine run 13 ?_
 refine wct ho (fun hq1 ho => ?_) fun hq1 ho => ?_
 ·exact w ho
 ·refine run 7 ?_
  obtain ⟨t12, ht12, ho⟩ := bnd ho
  refine wlp ht12 [0, 1] (fun s g => ([(5, vI (s))], [])) (altX (fun b => (.exit 0, fun g => ([], []))) (fun b => (.ret, fun g => ([(4, vB (b))], [])))) [] SEL (pk []) NE (fun s6 g7 _ ho => ?_) fun g13 => ?_
  ·exact w ho
  ·rcases t12 with b14 | b15
   ·have ho := alt_l ho
    show SRun ..
    exact w ho
   ·have ho := alt_r ho
    cases ho; exact id (ret_of (.inr rfl) (.v rfl .n) (by decide))⟩
instance i18 {a_0 b_1} : FI ktab 18 (g_ref08_Lists a_0 b_1) [.val (rSlice (rSlice (rInt .i64))) a_0, .val (rSlice (rSlice (rInt .i64))) b_1] (fun out => [.val rBool (out)]) := ⟨fun out ho => by
 delta g_ref08_Lists at ho
 refine fn fun _ _ => ?_
 refine run 13 ?_
 refine wct ho (fun hq1 ho => ?_) fun hq1 ho => ?_
 ·exact w ho
 ·refine run 7 ?_
  obtain ⟨t14, ht14, ho⟩ := bnd ho
  refine wlp ht14 [0, 1] (fun s g => ([(5, vI (s))], [])) (altX (fun b => (.exit 0, fun g => ([], []))) (fun b => (.ret, fun g => ([(4, vB (b))], [])))) [] SEL (pk []) NE (fun s7 g8 _ ho => ?_) fun g15 => ?_
  ·exact w ho
  ·rcases t14 with b16 | b17
   ·have ho := alt_l ho
    show SRun ..
    exact w ho
   ·have ho := alt_r ho
    cases ho; exact id (ret_of (.inr rfl) (.v rfl .n) (by decide))⟩
instance i64 {p_0 p_1} : FI ktab 64 (g_duty_work_planned p_0 p_1) [.val (rPtr rduty_work) p_0, .val (rSlice (rSlice (rInt .i64))) p_1] (fun out => [.val rBool (out)]) := ⟨fun out ho => by
 delta g_duty_work_planned at ho
 refine fn fun _ _ => ?_
 refine run 11 ?_
 obtain ⟨x1, hx1, ho⟩ := bnd ho
 refine xmk fun v2 => ?_
 refine run 14 ?_
 obtain ⟨t459, ht459, ho⟩ := bnd ho
 refine wlp ht459 [] (fun s g => ([(0, .val (rPtr rduty_work) (p_0)), (1, .val (rSlice (rSlice (rInt .i64))) (p_1)), (5, .raw v2), (6, vI (s.1)), (17, .val (rSlice (rSlice (rInt .i64))) (p_1)), (18, vI ((lenI p_1))), (19, vI (s.2.1))], [(v2, .row rBool (s.2.2))])) (altX (fun b => (.exit 0, fun g => ([(0, .val (rPtr rduty_work) (p_0)), (6, vI (b.1))], []))) (fun b => (.ret, fun g => ([(4, vB (b))], [])))) [] SEL (pk [0]) NE (fun s298 g299 _ ho => ?_) fun g460 => ?_
 ·refine run 5 ?_
  refine wct ho (fun hq300 ho => ?_) fun hq300 ho => ?_
  ·refine run 6 ?_
   obtain ⟨x301, hx301, ho⟩ := bnd ho
   refine run 12 ?_
   refine wbr ho (fun hb307 ho => ?_) fun hb307 ho => ?_
   ·refine run 17 ?_
    refine r_cond (.t rfl) (fun _ => ?_) (fun hq => by cases hq)
    exact w ho
   ·refine run 3 ?_
    refine wbr ho (fun hb309 ho => ?_) fun hb309 ho => ?_
    ·refine run 1 ?_
     obtain ⟨x310, hx310, ho⟩ := bnd ho
     refine run 5 ?_
     obtain ⟨x311, hx311, ho⟩ := bnd ho
     refine run 2 ?_
     obtain ⟨x312, hx312, ho⟩ := bnd ho
     refine run 6 ?_
     refine wct ho (fun hq313 ho => ?_) fun hq313 ho => ?_
     ·exact w ho
     ·refine run 8 ?_
      obtain ⟨t382, ht382, ho⟩ := bnd ho
      refine wlp ht382 [0, 1, 5, 8, 17, 18, 19, 28, 29, 30, 31, 32, 33, 34, 35, 36, 37, 38, 39, 40, 41, 42, 44, 45] (fun s g => ([(6, vI (s.1)), (46, vI (s.2.1))], [(v2, .row rBool (s.2.2))])) (altX (fun b => (.exit 2, fun g => ([(6, vI (b.1))], [(v2, .row rBool (b.2))]))) (fun b => (.ret, fun g => ([(4, vB (b.1))], [])))) [] SEL (pk [0]) NE (fun s358 g359 _ ho => ?_) fun g383 => ?_
      ·refine run 5 ?_
       refine wct ho (fun hq360 ho => ?_) fun hq360 ho => ?_
       ·refine run 6 ?_
        obtain ⟨x361, hx361, ho⟩ := bnd ho
        refine run 15 ?_
        refine xcl ho ?_
        intro y369 hy369 ho
        show SOps ..
        refine run 2 ?_
        refine wbr ho (fun hb370 ho => ?_) fun hb370 ho => ?_
        ·refine run 21 ?_
         refine r_cond (.t rfl) (fun _ => ?_) (fun hq => by cases hq)
         exact w ho
        ·refine run 2 ?_
         obtain ⟨x372, hx372, ho⟩ := bnd ho
         refine run 4 ?_
         refine wbr ho (fun hb373 ho => ?_) fun hb373 ho => ?_
         ·refine run 15 ?_
          refine r_cond (.t rfl) (fun _ => ?_) (fun hq => by cases hq)
          exact w ho
         ·refine run 3 ?_
          refine wbr ho (fun hb375 ho => ?_) fun hb375 ho => ?_
          ·refine run 4 ?_
           obtain ⟨x376, hx376, ho⟩ := bnd ho
           refine run 3 ?_
           refine xcl ho ?_
           intro y377 hy377 ho
           show SOps ..
           refine run 4 ?_
           refine wct ho (fun hq378 ho => ?_) fun hq378 ho => ?_
           ·exact w ho
           ·refine run 5 ?_
            obtain ⟨x379, hx379, ho⟩ := bnd ho
            refine run 11 ?_
            cases ho; exact s_nil (lf [] [0])
          ·refine run 12 ?_
           refine r_cond (.t rfl) (fun hq => by cases hq) (fun _ => ?_)
           refine run 5 ?_
           obtain ⟨x381, hx381, ho⟩ := bnd ho
           refine run 11 ?_
           cases ho; exact s_nil (lf [] [0])
       ·cases ho; exact r_exit (lf [] [0])
      ·rcases t382 with b384 | b385
       ·have ho := alt_l ho
        show SRun ..
        refine run 3 ?_
        cases ho; exact s_nil (lf [] [0])
       ·have ho := alt_r ho
        cases ho; exact id (lf [] [])
    ·refine run 14 ?_
     refine r_cond (.t rfl) (fun hq => by cases hq) (fun _ => ?_)
     refine run 8 ?_
     obtain ⟨t455, ht455, ho⟩ := bnd ho
     refine wlp ht455 [0, 1, 5, 8, 17, 18, 19, 28, 29, 30, 42, 44, 45] (fun s g => ([(6, vI (s.1)), (46, vI (s.2.1))], [(v2, .row rBool (s.2.2))])) (altX (fun b => (.exit 2, fun g => ([(6, vI (b.1))], [(v2, .row rBool (b.2))]))) (fun b => (.ret, fun g => ([(4, vB (b.1))], [])))) [] SEL (pk [0]) NE (fun s431 g432 _ ho => ?_) fun g456 => ?_
     ·refine run 5 ?_
      refine wct ho (fun hq433 ho => ?_) fun hq433 ho => ?_
      ·refine run 6 ?_
       obtain ⟨x434, hx434, ho⟩ := bnd ho
       refine run 15 ?_
       refine xcl ho ?_
       intro y442 hy442 ho
       show SOps ..
       refine run 2 ?_
       refine wbr ho (fun hb443 ho => ?_) fun hb443 ho => ?_
       ·refine run 21 ?_
        refine r_cond (.t rfl) (fun _ => ?_) (fun hq => by cases hq)
        exact w ho
       ·refine run 2 ?_
        obtain ⟨x445, hx445, ho⟩ := bnd ho
        refine run 4 ?_
        refine wbr ho (fun hb446 ho => ?_) fun hb446 ho => ?_
        ·refine run 15 ?_
         refine r_cond (.t rfl) (fun _ => ?_) (fun hq => by cases hq)
         exact w ho
        ·refine run 3 ?_
         refine wbr ho (fun hb448 ho => ?_) fun hb448 ho => ?_
         ·refine run 4 ?_
          obtain ⟨x449, hx449, ho⟩ := bnd ho
          refine run 3 ?_
          refine xcl ho ?_
          intro y450 hy450 ho
          show SOps ..
          refine run 4 ?_
          refine wct ho (fun hq451 ho => ?_) fun hq451 ho => ?_
          ·exact w ho
          ·refine run 5 ?_
           obtain ⟨x452, hx452, ho⟩ := bnd ho
           refine run 11 ?_
           cases ho; exact s_nil (lf [] [0])
         ·refine run 12 ?_
          refine r_cond (.t rfl) (fun hq => by cases hq) (fun _ => ?_)
          refine run 5 ?_
          obtain ⟨x454, hx454, ho⟩ := bnd ho
          refine run 11 ?_
          cases ho; exact s_nil (lf [] [0])
      ·cases ho; exact r_exit (lf [] [0])
     ·rcases t455 with b457 | b458
      ·have ho := alt_l ho
       show SRun ..
       refine run 3 ?_
       cases ho; exact s_nil (lf [] [0])
      ·have ho := alt_r ho
       cases ho; exact id (lf [] [])
  ·cases ho; exact r_exit (lf [] [])
 ·rcases t459 with b461 | b462
  ·have ho := alt_l ho
   show SRun ..
   exact w ho
  ·have ho := alt_r ho
   cases ho; exact id (ret_of (.inr rfl) (.v rfl .n) (by decide))⟩
instance i65 {x_0} : FI ktab 65 (g_duty_crewed_1 x_0) [vI x_0] (fun out => [.val rBool (out)]) := ⟨fun out ho => by
 delta g_duty_crewed_1 at ho
 refine fn fun _ _ => ?_
 exact w ho⟩
instance i44 {tasks_0 y_1 cars_2 r_3} : FI ktab 44 (g_duty_crewed tasks_0 y_1 cars_2 r_3) [.val (rSlice rTask) tasks_0, .val rYard y_1, .val (rSlice (rSlice (rInt .i64))) cars_2, .val rWorkRules r_3] (fun out => [.val (rPtrN rduty_crew) (out.1), .val rBool (out.2)]) := ⟨fun out ho => by
 delta g_duty_crewed at ho
 refine fn fun _ _ => ?_
 refine run 4 ?_
 refine s_pure rfl (.n rfl) rfl (e := .val (rPtrN rduty_crew) none) (fun z fr h s => ⟨_, rfl, nilptr_ok⟩) ?_
 refine run 7 ?_
 refine xcl ho ?_
 intro y1 hy1 ho
 show SOps ..
 refine run 2 ?_
 refine wct ho (fun hq2 ho => ?_) fun hq2 ho => ?_
 ·refine run 2 ?_
  refine s_pure rfl (.n rfl) rfl (e := .val (rPtrN rduty_crew) none) (fun z fr h s => ⟨_, rfl, nilptr_ok⟩) ?_
  exact w ho
 ·refine run 15 ?_
  obtain ⟨c6, hc6, ho⟩ := bnd ho
  refine wcx c6 [10] (fun t => (.normal, fun _ => ([(45, vB (t))], []))) SEL ?_ fun _ => ?_
  ·have ho := hc6
   refine run 6 ?_
   refine xcl ho ?_
   intro y7 hy7 ho
   show SOps ..
   refine run 2 ?_
   refine wbr ho (fun hb8 ho => ?_) fun hb8 ho => ?_
   ·exact w ho
   ·refine run 13 ?_
    obtain ⟨y9, hy9, ho⟩ := bnd ho
    refine s_calll (i53.ok _ hy9) (.v flat_bool .n) rfl (.g rfl rfl (gf0 hb8)) rfl rfl rfl .f (.c (.o (.t rfl)) (.c (.o (.fv (opd_fn (fun x y hf => i65.ok _ hf) rfl))) .n)) ?_
    exact w ho
  ·show SRun ..
   refine wct ho (fun hq10 ho => ?_) fun hq10 ho => ?_
   ·refine run 2 ?_
    refine s_pure rfl (.n rfl) rfl (e := .val (rPtrN rduty_crew) none) (fun z fr h s => ⟨_, rfl, nilptr_ok⟩) ?_
    exact w ho
   ·refine run 7 ?_
    cases ho
    refine r_st (st_optn (n := 8) rfl) ?_
    exact r_ret (ret_of (.inr rfl) (.v rfl (.v rfl .n)) (by decide))⟩
instance i50 {c_0} : FI ktab 50 (g_duty_crew_pieces c_0) [.val (rPtr rduty_crew) c_0] (fun out => [.row rDutyPiece (out)]) := ⟨fun out ho => by
 delta g_duty_crew_pieces at ho
 refine fn fun _ _ => ?_
 refine run 2 ?_
 refine s_st (st_nilrow rDutyPiece) ?_
 refine s_assign (.n rfl) rfl rfl .nilr ?_
 refine run 3 ?_
 refine s_st (st_nilrow rDutyPiece) ?_
 refine s_assign (.n rfl) rfl rfl .nilr ?_
 refine run 12 ?_
 obtain ⟨t116, ht116, ho⟩ := bnd ho
 refine wlp ht116 [11, 12] (fun s g => ([(3, .raw ((gh g 0))), (13, vI (s.2))], [((gh g 0), .row rDutyPiece (s.1))])) (fun b => (.exit 0, fun g => ([(3, .raw ((gh g 0)))], [((gh g 0), .row rDutyPiece (b))]))) [.nilslice] SEL (pk [0]) NE (fun s57 g58 _ ho => ?_) fun g117 => ?_
 ·refine run 5 ?_
  refine wct ho (fun hq62 ho => ?_) fun hq62 ho => ?_
  ·refine run 6 ?_
   obtain ⟨x63, hx63, ho⟩ := bnd ho
   refine run 12 ?_
   obtain ⟨t111, ht111, ho⟩ := bnd ho
   refine wlp ht111 [4, 5, 11, 12, 13, 19] (fun s g => ([(3, .raw ((gh g 0))), (20, vI (s.2))], [((gh g 0), .row rDutyPiece (s.1))])) (fun b => (.exit 2, fun g => ([(3, .raw ((gh g 0)))], [((gh g 0), .row rDutyPiece (b))]))) [(gh g58 0)] SEL (pk [0]) NE (fun s85 g86 _ ho => ?_) fun g112 => ?_
   ·refine run 5 ?_
    refine wct ho (fun hq90 ho => ?_) fun hq90 ho => ?_
    ·refine run 14 ?_
     obtain ⟨t106, ht106, ho⟩ := bnd ho
     refine wlp ht106 [4, 5, 6, 11, 12, 13, 19, 20] (fun s g => ([(3, .raw ((gh g 0))), (7, vI (s.2))], [((gh g 0), .row rDutyPiece (s.1))])) (fun b => (.exit 4, fun g => ([(3, .raw ((gh g 0)))], [((gh g 0), .row rDutyPiece (b))]))) [(gh g86 0)] SEL (pk [0]) NE (fun s96 g97 _ ho => ?_) fun g107 => ?_
     ·refine run 8 ?_
      refine wct ho (fun hq101 ho => ?_) fun hq101 ho => ?_
      ·refine run 10 ?_
       obtain ⟨x102, hx102, ho⟩ := bnd ho
       refine xap fun v103 => ?_
       refine run 6 ?_
       cases ho; exact s_nil (lf [v103] [0])
      ·cases ho; exact r_exit (lf [(gh g97 0)] [0])
     ·show SRun ..
      refine run 3 ?_
      cases ho; exact s_nil (lf [(gh g107 0)] [0])
    ·cases ho; exact r_exit (lf [(gh g86 0)] [0])
   ·show SRun ..
    refine run 3 ?_
    cases ho; exact s_nil (lf [(gh g112 0)] [0])
  ·cases ho; exact r_exit (lf [(gh g58 0)] [0])
 ·show SRun ..
  exact w ho⟩
instance i66 {p_0 p_1} : FI ktab 66 (g_duty_crew_options_1 p_0 p_1) [.val rDutyPiece p_0, .val (rPtr (rPtr rduty_crew)) p_1] (fun out => [.val (rInt .u64) (out)]) := ⟨fun out ho => by
 delta g_duty_crew_options_1 at ho
 refine fn fun _ _ => ?_
 refine run 18 ?_
 obtain ⟨x1, hx1, ho⟩ := bnd ho
 refine run 7 ?_
 obtain ⟨x2, hx2, ho⟩ := bnd ho
 refine run 5 ?_
 obtain ⟨t11, ht11, ho⟩ := bnd ho
 refine wlp ht11 [20, 21] (fun s g => ([(4, .val (rInt .u64) (s.1)), (22, vI (s.2))], [])) (fun b => (.exit 0, fun g => ([(4, .val (rInt .u64) (b))], []))) [] SEL (pk []) NE (fun s6 g7 _ ho => ?_) fun g12 => ?_
 ·exact w ho
 ·show SRun ..
  exact w ho⟩
instance i94 {s_0 f_1} : FI ktab 94 (g_slices_IndexFunc_api_DutyPiece_api_DutyPiece s_0 f_1) [.val (rSlice rDutyPiece) s_0, .val (rFn ktab (DutyPiece) (Bool) (fun x => [.val rDutyPiece (x)]) (fun y => [.val rBool (y)])) f_1] (fun out => [.val (rInt .i64) (out)]) := ⟨fun out ho => by
 delta g_slices_IndexFunc_api_DutyPiece_api_DutyPiece at ho
 refine fn fun _ _ => ?_
 refine run 12 ?_
 obtain ⟨t11, ht11, ho⟩ := bnd ho
 refine wlp ht11 [0, 1, 7] (fun s g => ([(8, vI (s))], [])) (altX (fun b => (.exit 0, fun g => ([], []))) (fun b => (.ret, fun g => ([(4, vI (b))], [])))) [] SEL (pk []) NE (fun s5 g6 _ ho => ?_) fun g12 => ?_
 ·refine run 5 ?_
  refine wct ho (fun hq7 ho => ?_) fun hq7 ho => ?_
  ·refine run 13 ?_
   obtain ⟨x8, hx8, ho⟩ := bnd ho
   refine run 2 ?_
   obtain ⟨y9, hy9, ho⟩ := bnd ho
   refine s_callv (X := (DutyPiece)) (Y := (Bool)) (f := f_1) (x := x8) hy9 (.n rfl) rfl rfl rfl (.t rfl) (.c (.t rfl) .n) ?_
   exact w ho
  ·cases ho; exact r_exit (lf [] [])
 ·rcases t11 with b13 | b14
  ·have ho := alt_l ho
   show SRun ..
   exact w ho
  ·have ho := alt_r ho
   cases ho; exact id (ret_of (.inr rfl) (.v rfl .n) (by decide))⟩
instance i88 {s_0 f_1} : FI ktab 88 (g_slices_ContainsFunc_api_DutyPiece_api_DutyPiece s_0 f_1) [.val (rSlice rDutyPiece) s_0, .val (rFn ktab (DutyPiece) (Bool) (fun x => [.val rDutyPiece (x)]) (fun y => [.val rBool (y)])) f_1] (fun out => [.val rBool (out)]) := ⟨fun out ho => by
 delta g_slices_ContainsFunc_api_DutyPiece_api_DutyPiece at ho
 refine fn fun _ _ => ?_
 exact w ho⟩
instance i84 {c_0 p_1} : FI ktab 84 (g_duty_crew_last c_0 p_1) [.val (rPtr rduty_crew) c_0, .val rDutyPiece p_1] (fun out => [.val rTask (out)]) := ⟨fun out ho => by
 delta g_duty_crew_last at ho
 refine fn fun _ _ => ?_
 refine run 3 ?_
 refine xal (zv := .agg [.int .i64 0, .int .i64 0, .int .i64 0, .int .i64 0]) (es := [vI (0), vI (0), vI (0), vI (0)]) (by kernel_rfl) fun b1 => ?_
 refine run 16 ?_
 obtain ⟨x3, hx3, ho⟩ := bnd ho
 refine run 4 ?_
 obtain ⟨x4, hx4, ho⟩ := bnd ho
 refine run 2 ?_
 obtain ⟨x5, hx5, ho⟩ := bnd ho
 refine run 4 ?_
 cases ho; exact r_ret (ret_of (.inr rfl) (.b 0 U87 (cells_pair (cells_one rfl) (cells_pair (cells_one rfl) (cells_pair (cells_one rfl) (cells_pair (cells_one rfl) cells_unit rfl) rfl) rfl) rfl) rfl rfl .n) (by decide))⟩
instance i85 {c_0 p_1} : FI ktab 85 (g_duty_crew_first c_0 p_1) [.val (rPtr rduty_crew) c_0, .val rDutyPiece p_1] (fun out => [.val rTask (out)]) := ⟨fun out ho => by
 delta g_duty_crew_first at ho
 refine fn fun _ _ => ?_
 refine run 3 ?_
 refine xal (zv := .agg [.int .i64 0, .int .i64 0, .int .i64 0, .int .i64 0]) (es := [vI (0), vI (0), vI (0), vI (0)]) (by kernel_rfl) fun b1 => ?_
 refine run 16 ?_
 obtain ⟨x3, hx3, ho⟩ := bnd ho
 refine run 4 ?_
 obtain ⟨x4, hx4, ho⟩ := bnd ho
 refine run 2 ?_
 obtain ⟨x5, hx5, ho⟩ := bnd ho
 refine run 4 ?_
 cases ho; exact r_ret (ret_of (.inr rfl) (.b 0 U87 (cells_pair (cells_one rfl) (cells_pair (cells_one rfl) (cells_pair (cells_one rfl) (cells_pair (cells_one rfl) cells_unit rfl) rfl) rfl) rfl) rfl rfl .n) (by decide))⟩
instance i90 {c_0 p_1} : FI ktab 90 (g_duty_crew_lasts c_0 p_1) [.val (rPtr rduty_crew) c_0, .val rDutyPiece p_1] (fun out => [.val (rInt .i64) (out)]) := ⟨fun out ho => by
 delta g_duty_crew_lasts at ho
 refine fn fun _ _ => ?_
 exact w ho⟩
instance i89 {p_0 p_1} : FI ktab 89 (g_duty_crew_piece_1 p_0 p_1) [.val rDutyPiece p_0, .val (rPtr (rPtr rduty_crew)) p_1] (fun out => [.val rBool (out)]) := ⟨fun out ho => by
 delta g_duty_crew_piece_1 at ho
 refine fn fun _ _ => ?_
 exact w ho⟩
instance i74 {c_0 d_1} : FI ktab 74 (g_duty_crew_piece c_0 d_1) [.val (rPtr rduty_crew) c_0, .val rDuty d_1] (fun out => [.val rBool (out)]) := ⟨fun out ho => by
 delta g_duty_crew_piece at ho
 refine fn fun _ _ => ?_
 refine run 10 ?_
 refine s_mkfn (X := (DutyPiece)) (Y := (Bool)) (fun x => [.val rDutyPiece (x)]) (fun y => [.val rBool (y)]) (f := (fun x => g_duty_crew_piece_1 x c_0)) (fun x y hf => i89.ok _ hf) rfl (.n rfl) rfl rfl .n (.c (.t rfl) .n) ?_
 exact w ho⟩
instance i91 {p_0 p_1} : FI ktab 91 (g_duty_crew_relief_1 p_0 p_1) [.val rDutyPiece p_0, .val (rPtr (rPtr rduty_crew)) p_1] (fun out => [.val rBool (out)]) := ⟨fun out ho => by
 delta g_duty_crew_relief_1 at ho
 refine fn fun _ _ => ?_
 refine run 6 ?_
 obtain ⟨c13, hc13, ho⟩ := bnd ho
 refine wcx c13 [] (fun t => (.normal, fun _ => ([(3, vB (t))], []))) SEL ?_ fun _ => ?_
 ·exact w hc13
 ·show SRun ..
  cases ho; exact r_ret (ret_of (.inr rfl) (.v rfl .n) (by decide))⟩
instance i75 {c_0 d_1} : FI ktab 75 (g_duty_crew_relief c_0 d_1) [.val (rPtr rduty_crew) c_0, .val rDuty d_1] (fun out => [.val rBool (out)]) := ⟨fun out ho => by
 delta g_duty_crew_relief at ho
 refine fn fun _ _ => ?_
 refine run 10 ?_
 refine s_mkfn (X := (DutyPiece)) (Y := (Bool)) (fun x => [.val rDutyPiece (x)]) (fun y => [.val rBool (y)]) (f := (fun x => g_duty_crew_relief_1 x c_0)) (fun x y hf => i91.ok _ hf) rfl (.n rfl) rfl rfl .n (.c (.t rfl) .n) ?_
 exact w ho⟩
instance i92 {c_0 d_1} : FI ktab 92 (g_duty_crew_between c_0 d_1) [.val (rPtr rduty_crew) c_0, .val rDuty d_1] (fun out => [.val (rInt .i64) (out.1), .val (rInt .i64) (out.2)]) := ⟨fun out ho => by
 delta g_duty_crew_between at ho
 refine fn fun _ _ => ?_
 refine run 11 ?_
 obtain ⟨x1, hx1, ho⟩ := bnd ho
 refine run 2 ?_
 refine xcl ho ?_
 intro y2 hy2 ho
 show SOps ..
 refine run 3 ?_
 obtain ⟨x3, hx3, ho⟩ := bnd ho
 refine run 2 ?_
 refine xcl ho ?_
 intro y4 hy4 ho
 show SOps ..
 refine xal (zv := .agg [.int .i64 0, .int .i64 0, .int .i64 0, .int .i64 0]) (es := [vI (0), vI (0), vI (0), vI (0)]) (by kernel_rfl) fun b5 => ?_
 refine xal (zv := .agg [.int .i64 0, .int .i64 0, .int .i64 0, .int .i64 0]) (es := [vI (0), vI (0), vI (0), vI (0)]) (by kernel_rfl) fun b7 => ?_
 refine run 1 ?_
 refine s_st (st_freezeb (R := rTask) (a := y2) 1 [6] (cells_pair (cells_one rfl) (cells_pair (cells_one rfl) (cells_pair (cells_one rfl) (cells_pair (cells_one rfl) cells_unit rfl) rfl) rfl) rfl) rfl rfl ⟨rfl, trivial⟩) ?_
 refine run 1 ?_
 refine s_st (st_freezeb (R := rTask) (a := y4) 0 [7] (cells_pair (cells_one rfl) (cells_pair (cells_one rfl) (cells_pair (cells_one rfl) (cells_pair (cells_one rfl) cells_unit rfl) rfl) rfl) rfl) rfl rfl ⟨rfl, trivial⟩) ?_
 exact w ho⟩
instance i76 {c_0 d_1} : FI ktab 76 (g_duty_crew_order c_0 d_1) [.val (rPtr rduty_crew) c_0, .val rDuty d_1] (fun out => [.val rBool (out)]) := ⟨fun out ho => by
 delta g_duty_crew_order at ho
 refine fn fun _ _ => ?_
 refine run 13 ?_
 refine wct ho (fun hq1 ho => ?_) fun hq1 ho => ?_
 ·exact w ho
 ·refine run 5 ?_
  refine xcl ho ?_
  intro y2 hy2 ho
  show SOps ..
  refine run 7 ?_
  obtain ⟨c4, hc4, ho⟩ := bnd ho
  refine wcx c4 [] (fun t => (.normal, fun _ => ([(4, vB (t))], []))) SEL ?_ fun _ => ?_
  ·exact w hc4
  ·show SRun ..
   cases ho; exact r_ret (ret_of (.inr rfl) (.v rfl .n) (by decide))⟩
instance i77 {c_0 d_1} : FI ktab 77 (g_duty_crew_pause c_0 d_1) [.val (rPtr rduty_crew) c_0, .val rDuty d_1] (fun out => [.val rBool (out)]) := ⟨fun out ho => by
 delta g_duty_crew_pause at ho
 refine fn fun _ _ => ?_
 refine run 7 ?_
 obtain ⟨c3, hc3, ho⟩ := bnd ho
 refine wcx c3 [0, 3] (fun t => (.normal, fun _ => ([(15, vB (t))], []))) SEL ?_ fun _ => ?_
 ·exact w hc3
 ·show SRun ..
  exact w ho⟩
instance i68 {c_0 d_1} : FI ktab 68 (g_duty_crew_span c_0 d_1) [.val (rPtr rduty_crew) c_0, .val rDuty d_1] (fun out => [.val (rInt .i64) (out)]) := ⟨fun out ho => by
 delta g_duty_crew_span at ho
 refine fn fun _ _ => ?_
 exact w ho⟩
instance i78 {c_0 d_1} : FI ktab 78 (g_duty_crew_long c_0 d_1) [.val (rPtr rduty_crew) c_0, .val rDuty d_1] (fun out => [.val rBool (out)]) := ⟨fun out ho => by
 delta g_duty_crew_long at ho
 refine fn fun _ _ => ?_
 exact w ho⟩
instance i79 {c_0 d_1} : FI ktab 79 (g_duty_crew_time c_0 d_1) [.val (rPtr rduty_crew) c_0, .val rDuty d_1] (fun out => [.val rBool (out)]) := ⟨fun out ho => by
 delta g_duty_crew_time at ho
 refine fn fun _ _ => ?_
 refine run 29 ?_
 obtain ⟨t13, ht13, ho⟩ := bnd ho
 refine wlp ht13 [0, 20, 21] (fun s g => ([(5, vI (s.1)), (22, vI (s.2))], [])) (fun b => (.exit 0, fun g => ([(5, vI (b))], []))) [] SEL (pk []) NE (fun s6 g7 _ ho => ?_) fun g14 => ?_
 ·refine run 5 ?_
  refine wct ho (fun hq8 ho => ?_) fun hq8 ho => ?_
  ·refine run 5 ?_
   obtain ⟨x9, hx9, ho⟩ := bnd ho
   refine run 2 ?_
   refine xal (zv := .agg [.int .i64 0, .int .i64 0, .int .i64 0]) (es := [vI (0), vI (0), vI (0)]) (by kernel_rfl) fun b10 => ?_
   refine run 1 ?_
   refine s_st (st_freezeb (R := rDutyPiece) (a := x9) 0 [7] (cells_pair (cells_one rfl) (cells_pair (cells_one rfl) (cells_pair (cells_one rfl) cells_unit rfl) rfl) rfl) rfl rfl ⟨rfl, trivial⟩) ?_
   exact w ho
  ·cases ho; exact r_exit (lf [] [])
 ·show SRun ..
  exact w ho⟩
instance i51 {c_0 d_1} : FI ktab 51 (g_duty_crew_faults c_0 d_1) [.val (rPtr rduty_crew) c_0, .val rDuty d_1] (fun out => [.row (rInt .i64) (out)]) := ⟨fun out ho => by
 delta g_duty_crew_faults at ho
 refine fn fun _ _ => ?_
 refine run 3 ?_
 refine s_st (st_nilrow (rInt .i64)) ?_
 refine s_assign (.n rfl) rfl rfl .nilr ?_
 refine run 4 ?_
 refine s_mkfn (X := (Duty)) (Y := (Bool)) (fun x => [.val rDuty (x)]) (fun y => [.val rBool (y)]) (f := (fun x => g_duty_crew_piece c_0 x)) (fun x y hf => i74.ok _ hf) rfl (.n rfl) rfl rfl (.c (.t rfl) .n) .n ?_
 refine run 1 ?_
 refine s_mkfn (X := (Duty)) (Y := (Bool)) (fun x => [.val rDuty (x)]) (fun y => [.val rBool (y)]) (f := (fun x => g_duty_crew_relief c_0 x)) (fun x y hf => i75.ok _ hf) rfl (.n rfl) rfl rfl (.c (.t rfl) .n) .n ?_
 refine run 1 ?_
 refine s_mkfn (X := (Duty)) (Y := (Bool)) (fun x => [.val rDuty (x)]) (fun y => [.val rBool (y)]) (f := (fun x => g_duty_crew_order c_0 x)) (fun x y hf => i76.ok _ hf) rfl (.n rfl) rfl rfl (.c (.t rfl) .n) .n ?_
 refine run 1 ?_
 refine s_mkfn (X := (Duty)) (Y := (Bool)) (fun x => [.val rDuty (x)]) (fun y => [.val rBool (y)]) (f := (fun x => g_duty_crew_pause c_0 x)) (fun x y hf => i77.ok _ hf) rfl (.n rfl) rfl rfl (.c (.t rfl) .n) .n ?_
 refine run 1 ?_
 refine s_mkfn (X := (Duty)) (Y := (Bool)) (fun x => [.val rDuty (x)]) (fun y => [.val rBool (y)]) (f := (fun x => g_duty_crew_long c_0 x)) (fun x y hf => i78.ok _ hf) rfl (.n rfl) rfl rfl (.c (.t rfl) .n) .n ?_
 refine run 1 ?_
 refine s_mkfn (X := (Duty)) (Y := (Bool)) (fun x => [.val rDuty (x)]) (fun y => [.val rBool (y)]) (f := (fun x => g_duty_crew_time c_0 x)) (fun x y hf => i79.ok _ hf) rfl (.n rfl) rfl rfl (.c (.t rfl) .n) .n ?_
 refine s_builda (R := (rFn ktab (Duty) (Bool) (fun x => [.val rDuty (x)]) (fun y => [.val rBool (y)]))) (zc := [.nilfunc, .nilfunc, .nilfunc, .nilfunc, .nilfunc, .nilfunc]) AR129 (by kernel_rfl) (by rfl) (.n rfl) rfl rfl (.c (.t rfl) (.c (.t rfl) (.c (.t rfl) (.c (.t rfl) (.c (.t rfl) (.c (.t rfl) .n)))))) (by rfl) ?_
 refine xal (zv := .agg [.nilfunc, .nilfunc, .nilfunc, .nilfunc, .nilfunc, .nilfunc]) (es := [.raw (.nilfunc), .raw (.nilfunc), .raw (.nilfunc), .raw (.nilfunc), .raw (.nilfunc), .raw (.nilfunc)]) (by kernel_rfl) fun b2 => ?_
 refine s_storeab 0 AR129 rfl (by rfl) (by decide) (.n rfl) rfl rfl (.t rfl) (.t rfl) (by rfl) ?_
 refine run 3 ?_
 refine s_st (st_nilrow (rInt .i64)) ?_
 refine s_assign (.n rfl) rfl rfl .nilr ?_
 refine run 4 ?_
 refine s_loada 1 (fun _ h => by cases h <;> rfl) AR129 rfl (.n rfl) rfl rfl (.t rfl) ?_
 refine run 3 ?_
 obtain ⟨t27, ht27, ho⟩ := bnd ho
 refine wlp ht27 [3, 22] (fun s g => ([(6, .raw ((gh g 0))), (23, vI (s.2))], [((gh g 0), .row (rInt .i64) (s.1))])) (fun b => (.exit 0, fun g => ([(6, .raw ((gh g 0)))], [((gh g 0), .row (rInt .i64) (b))]))) [.nilslice] SEL (pk [0]) NE (fun s13 g14 _ ho => ?_) fun g28 => ?_
 ·refine run 5 ?_
  refine wct ho (fun hq18 ho => ?_) fun hq18 ho => ?_
  ·refine run 6 ?_
   obtain ⟨x19, hx19, ho⟩ := bnd ho
   refine run 8 ?_
   obtain ⟨y20, hy20, ho⟩ := bnd ho
   refine s_callv (X := (Duty)) (Y := (Bool)) (f := x19) (x := d_1) hy20 (.n rfl) rfl rfl rfl (.t rfl) (.c (.t rfl) .n) ?_
   show SOps ..
   refine run 1 ?_
   refine wct ho (fun hq21 ho => ?_) fun hq21 ho => ?_
   ·refine run 5 ?_
    obtain ⟨x22, hx22, ho⟩ := bnd ho
    refine xap fun v23 => ?_
    refine run 5 ?_
    cases ho; exact s_nil (lf [v23] [0])
   ·refine run 4 ?_
    cases ho; exact s_nil (lf [(gh g14 0)] [0])
  ·cases ho; exact r_exit (lf [(gh g14 0)] [0])
 ·show SRun ..
  exact w ho⟩
theorem g_duty_crew_options_2_ok   {s_0 : Int} {l_1 : (List DutyPiece)} {p_2 : duty_crew} {p_3 : (List duty_option)} {out : ((List duty_option))} (ho : g_duty_crew_options_2 s_0 l_1 p_2 p_3 = some out) (b_3 : Nat) (hv_3_0 : AVal) : FunM ktab 67 [.val (rInt .u64) s_0, .val (rSlice rDutyPiece) l_1, .val (rPtr (rPtr rduty_crew)) p_2, .raw (.ptr b_3 0)] [(.ptr b_3 0, .box [.raw hv_3_0]), (hv_3_0, .row rduty_option (p_3))] [] (fun γ => [(.ptr b_3 0, .box [.raw ((gh γ 0))]), ((gh γ 0), .row rduty_option (out))]) := by
 refine funm_of (F := Try.f67) (by rfl) (by rfl) (by rfl) (fun C => ?_)
 delta g_duty_crew_options_2 at ho
 refine run 4 ?_
 refine xal (zv := .agg [.nilslice]) (es := [.val (rSlice rDutyPiece) ([])]) (by kernel_rfl) fun b1 => ?_
 refine run 1 ?_
 refine s_st (st_freezeb (R := rDuty) (a := ((l_1, ()) : Duty)) 0 [6] (cells_pair (cells_one rfl) cells_unit rfl) rfl rfl ⟨rfl, trivial⟩) ?_
 refine run 5 ?_
 refine xcl ho ?_
 intro y3 hy3 ho v4
 show SOps ..
 refine run 3 ?_
 refine wct ho (fun hq6 ho => ?_) fun hq6 ho => ?_
 ·refine r_draw [0] (by kernel_rfl) ?_
  refine run 5 ?_
  refine xcl ho ?_
  intro y7 hy7 ho
  show SOps ..
  refine run 2 ?_
  obtain ⟨x8, hx8, ho⟩ := bnd ho
  refine xap fun v9 => ?_
  refine s_storebo 2 0 (U92).sz rfl rfl (by exact Nat.le_of_ble_eq_true rfl) (.n rfl) rfl rfl (.t rfl) (.t rfl) (by rfl) ?_
  cases ho; exact s_nil (retm_of [2, 0] [v9] (.inl rfl) .n rfl (by decide))
 ·cases ho; exact r_skip (retm_of [1, 2] [hv_3_0] (.inl rfl) .n rfl (by decide))
theorem g_slices_insertionSortCmpFunc_duty_option_ok   {data_0 : (List duty_option)} {a_1 : Int} {b_2 : Int} {cmp_3 : ((duty_option × duty_option) → Option (Int))} {out : ((List duty_option))} (ho : g_slices_insertionSortCmpFunc_duty_option data_0 a_1 b_2 cmp_3 = some out) (v_0 : AVal) : FunM ktab 95 [.raw v_0, .val (rInt .i64) a_1, .val (rInt .i64) b_2, .val (rFn ktab (duty_option × duty_option) (Int) (fun x => [.val rduty_option (x.1), .val rduty_option (x.2)]) (fun y => [.val (rInt .i64) (y)])) cmp_3] [(v_0, .row rduty_option (data_0))] [] (fun γ => [(v_0, .row rduty_option (out))]) := by
 refine funm_of (F := Try.f95) (by rfl) (by rfl) (by rfl) (fun C => ?_)
 delta g_slices_insertionSortCmpFunc_duty_option at ho
 refine run 7 ?_
 obtain ⟨t144, ht144, ho⟩ := bnd ho
 refine wlp ht144 [0, 1, 2, 3] (fun s g => ([(8, vI (s.1))], [(v_0, .row rduty_option (s.2))])) (fun b => (.exit 0, fun g => ([], [(v_0, .row rduty_option (b))]))) [] SEL (pk [0]) NE (fun s95 g96 _ ho => ?_) fun g145 => ?_
 ·refine run 7 ?_
  refine wct ho (fun hq97 ho => ?_) fun hq97 ho => ?_
  ·refine run 9 ?_
   obtain ⟨t142, ht142, ho⟩ := bnd ho
   refine wlp ht142 [0, 1, 2, 3, 8] (fun s g => ([(9, vI (s.1))], [(v_0, .row rduty_option (s.2))])) (fun b => (.exit 2, fun g => ([], [(v_0, .row rduty_option (b))]))) [] SEL (pk [0]) NE (fun s126 g127 _ ho => ?_) fun g143 => ?_
   ·refine run 2 ?_
    refine r_draw [8, 13] (by kernel_rfl) ?_
    refine run 4 ?_
    refine wbr ho (fun hb132 ho => ?_) fun hb132 ho => ?_
    ·refine run 3 ?_
     obtain ⟨x133, hx133, ho⟩ := bnd ho
     refine run 5 ?_
     obtain ⟨x134, hx134, ho⟩ := bnd ho
     refine run 2 ?_
     obtain ⟨y135, hy135, ho⟩ := bnd ho
     refine s_callv (X := (duty_option × duty_option)) (Y := (Int)) (f := cmp_3) (x := (x133, x134)) hy135 (.g rfl rfl (gt1 hb132)) rfl rfl rfl (.t rfl) (.c (.t rfl) (.c (.t rfl) .n)) ?_
     show SOps ..
     refine run 3 ?_
     refine wct ho (fun hq136 ho => ?_) fun hq136 ho => ?_
     ·refine run 3 ?_
      refine r_draw [9, 13] (by kernel_rfl) ?_
      refine run 8 ?_
      obtain ⟨x137, hx137, ho⟩ := bnd ho
      refine run 4 ?_
      obtain ⟨x138, hx138, ho⟩ := bnd ho
      refine run 2 ?_
      obtain ⟨x139, hx139, ho⟩ := bnd ho
      refine run 2 ?_
      obtain ⟨x140, hx140, ho⟩ := bnd ho
      refine run 7 ?_
      cases ho; exact s_nil (lf [] [0])
     ·cases ho; exact r_exit (lf [] [0])
    ·refine run 14 ?_
     refine r_cond (.t rfl) (fun hq => by cases hq) (fun _ => ?_)
     cases ho; exact r_exit (lf [] [0])
   ·show SRun ..
    refine run 4 ?_
    cases ho; exact s_nil (lf [] [0])
  ·cases ho; exact r_exit (lf [] [0])
 ·cases ho; exact id (retm_of [0] [] (.inl rfl) .n rfl (by decide))
theorem g_slices_swapRangeCmpFunc_duty_option_ok   {data_0 : (List duty_option)} {a_1 : Int} {b_2 : Int} {n_3 : Int} {cmp_4 : ((duty_option × duty_option) → Option (Int))} {out : ((List duty_option))} (ho : g_slices_swapRangeCmpFunc_duty_option data_0 a_1 b_2 n_3 cmp_4 = some out) (v_0 : AVal) : FunM ktab 98 [.raw v_0, .val (rInt .i64) a_1, .val (rInt .i64) b_2, .val (rInt .i64) n_3, .val (rFn ktab (duty_option × duty_option) (Int) (fun x => [.val rduty_option (x.1), .val rduty_option (x.2)]) (fun y => [.val (rInt .i64) (y)])) cmp_4] [(v_0, .row rduty_option (data_0))] [] (fun γ => [(v_0, .row rduty_option (out))]) := by
 refine funm_of (F := Try.f98) (by rfl) (by rfl) (by rfl) (fun C => ?_)
 delta g_slices_swapRangeCmpFunc_duty_option at ho
 refine run 5 ?_
 obtain ⟨t18, ht18, ho⟩ := bnd ho
 refine wlp ht18 [0, 1, 2, 3] (fun s g => ([(10, vI (s.1))], [(v_0, .row rduty_option (s.2))])) (fun b => (.exit 0, fun g => ([], [(v_0, .row rduty_option (b))]))) [] SEL (pk [0]) NE (fun s11 g12 _ ho => ?_) fun g19 => ?_
 ·refine run 7 ?_
  refine wct ho (fun hq13 ho => ?_) fun hq13 ho => ?_
  ·refine run 3 ?_
   refine r_draw [13, 19] (by kernel_rfl) ?_
   refine run 12 ?_
   obtain ⟨x14, hx14, ho⟩ := bnd ho
   refine run 6 ?_
   obtain ⟨x15, hx15, ho⟩ := bnd ho
   refine run 2 ?_
   obtain ⟨x16, hx16, ho⟩ := bnd ho
   refine run 2 ?_
   obtain ⟨x17, hx17, ho⟩ := bnd ho
   refine run 7 ?_
   cases ho; exact s_nil (lf [] [0])
  ·cases ho; exact r_exit (lf [] [0])
 ·cases ho; exact id (retm_of [0] [] (.inl rfl) .n rfl (by decide))
theorem g_slices_rotateCmpFunc_duty_option_ok   {data_0 : (List duty_option)} {a_1 : Int} {m_2 : Int} {b_3 : Int} {cmp_4 : ((duty_option × duty_option) → Option (Int))} {out : ((List duty_option))} (ho : g_slices_rotateCmpFunc_duty_option data_0 a_1 m_2 b_3 cmp_4 = some out) (v_0 : AVal) : FunM ktab 97 [.raw v_0, .val (rInt .i64) a_1, .val (rInt .i64) m_2, .val (rInt .i64) b_3, .val (rFn ktab (duty_option × duty_option) (Int) (fun x => [.val rduty_option (x.1), .val rduty_option (x.2)]) (fun y => [.val (rInt .i64) (y)])) cmp_4] [(v_0, .row rduty_option (data_0))] [] (fun γ => [(v_0, .row rduty_option (out))]) := by
 refine funm_of (F := Try.f97) (by rfl) (by rfl) (by rfl) (fun C => ?_)
 delta g_slices_rotateCmpFunc_duty_option at ho
 refine run 16 ?_
 obtain ⟨t21, ht21, ho⟩ := bnd ho
 refine wlp ht21 [0, 2, 4] (fun s g => ([(10, vI (s.1)), (11, vI (s.2.1))], [(v_0, .row rduty_option (s.2.2))])) (fun b => (.exit 0, fun g => ([(10, vI (b.1))], [(v_0, .row rduty_option (b.2))]))) [] SEL (pk [0]) NE (fun s13 g14 _ ho => ?_) fun g22 => ?_
 ·refine run 7 ?_
  refine wct ho (fun hq15 ho => ?_) fun hq15 ho => ?_
  ·refine run 8 ?_
   refine wct ho (fun hq16 ho => ?_) fun hq16 ho => ?_
   ·refine run 9 ?_
    obtain ⟨y17, hy17, ho⟩ := bnd ho
    refine s_callmd [0] [] (fun _ h => by cases h) (g_slices_swapRangeCmpFunc_duty_option_ok hy17 v_0) rfl rfl (by decide) rfl (.n rfl) rfl rfl rfl .f (.c (.t rfl) (.c (.t rfl) (.c (.t rfl) (.c (.t rfl) (.c (.t rfl) .n))))) ?_
    intro g18
    show SOps ..
    refine run 6 ?_
    cases ho; exact s_nil (lf [] [0])
   ·refine run 13 ?_
    obtain ⟨y19, hy19, ho⟩ := bnd ho
    refine s_callmd [0] [] (fun _ h => by cases h) (g_slices_swapRangeCmpFunc_duty_option_ok hy19 v_0) rfl rfl (by decide) rfl (.n rfl) rfl rfl rfl .f (.c (.t rfl) (.c (.t rfl) (.c (.t rfl) (.c (.t rfl) (.c (.t rfl) .n))))) ?_
    intro g20
    show SOps ..
    refine run 6 ?_
    cases ho; exact s_nil (lf [] [0])
  ·cases ho; exact r_exit (lf [] [0])
 ·show SRun ..
  refine run 8 ?_
  obtain ⟨y23, hy23, ho⟩ := bnd ho
  refine s_callmd [0] [] (fun _ h => by cases h) (g_slices_swapRangeCmpFunc_duty_option_ok hy23 v_0) rfl rfl (by decide) rfl (.n rfl) rfl rfl rfl .f (.c (.t rfl) (.c (.t rfl) (.c (.t rfl) (.c (.t rfl) (.c (.t rfl) .n))))) ?_
  intro g24
  show SOps ..
  cases ho; exact s_nil (retm_of [0] [] (.inl rfl) .n rfl (by decide))
theorem g_slices_symMergeCmpFunc_duty_option_body_ok  {rec : (List duty_option) → Int → Int → Int → ((duty_option × duty_option) → Option (Int)) → Option ((List duty_option))}  (hrec : ∀ {p_0 : (List duty_option)} {p_1 : Int} {p_2 : Int} {p_3 : Int} {p_4 : ((duty_option × duty_option) → Option (Int))} {out : ((List duty_option))}, rec p_0 p_1 p_2 p_3 p_4 = some out → ∀ (v_0 : AVal), FunM ktab 96 [.raw v_0, .val (rInt .i64) p_1, .val (rInt .i64) p_2, .val (rInt .i64) p_3, .val (rFn ktab (duty_option × duty_option) (Int) (fun x => [.val rduty_option (x.1), .val rduty_option (x.2)]) (fun y => [.val (rInt .i64) (y)])) p_4] [(v_0, .row rduty_option (p_0))] [] (fun γ => [(v_0, .row rduty_option (out))])) {p_0 : (List duty_option)} {p_1 : Int} {p_2 : Int} {p_3 : Int} {p_4 : ((duty_option × duty_option) → Option (Int))} {out : ((List duty_option))} (ho : g_slices_symMergeCmpFunc_duty_option_body rec p_0 p_1 p_2 p_3 p_4 = some out) (v_0 : AVal) : FunM ktab 96 [.raw v_0, .val (rInt .i64) p_1, .val (rInt .i64) p_2, .val (rInt .i64) p_3, .val (rFn ktab (duty_option × duty_option) (Int) (fun x => [.val rduty_option (x.1), .val rduty_option (x.2)]) (fun y => [.val (rInt .i64) (y)])) p_4] [(v_0, .row rduty_option (p_0))] [] (fun γ => [(v_0, .row rduty_option (out))]) := by
 refine funm_of (F := Try.f96) (by rfl) (by rfl) (by rfl) (fun C => ?_)
 delta g_slices_symMergeCmpFunc_duty_option_body at ho
 refine run 8 ?_
 refine wct ho (fun hq1 ho => ?_) fun hq1 ho => ?_
 ·refine run 12 ?_
  obtain ⟨t16, ht16, ho⟩ := bnd ho
  refine wlp ht16 [0, 1, 4] (fun s g => ([(10, vI (s.1)), (11, vI (s.2))], [(v_0, .row rduty_option (p_0))])) (fun b => (.exit 0, fun g => ([(10, vI (b))], [(v_0, .row rduty_option (p_0))]))) [] SEL (pk [0]) NE (fun s8 g9 _ ho => ?_) fun g17 => ?_
  ·refine run 7 ?_
   refine wct ho (fun hq10 ho => ?_) fun hq10 ho => ?_
   ·refine run 8 ?_
    obtain ⟨x11, hx11, ho⟩ := bnd ho
    refine run 5 ?_
    refine r_draw [4, 8] (by kernel_rfl) ?_
    refine run 3 ?_
    obtain ⟨x12, hx12, ho⟩ := bnd ho
    refine run 4 ?_
    obtain ⟨x13, hx13, ho⟩ := bnd ho
    refine run 2 ?_
    obtain ⟨y14, hy14, ho⟩ := bnd ho
    refine s_callv (X := (duty_option × duty_option)) (Y := (Int)) (f := p_4) (x := (x12, x13)) hy14 (.n rfl) rfl rfl rfl (.t rfl) (.c (.t rfl) (.c (.t rfl) .n)) ?_
    show SOps ..
    refine run 2 ?_
    refine wct ho (fun hq15 ho => ?_) fun hq15 ho => ?_
    ·refine run 4 ?_
     cases ho; exact s_nil (lf [] [0])
    ·refine run 3 ?_
     cases ho; exact s_nil (lf [] [0])
   ·cases ho; exact r_exit (lf [] [0])
  ·show SRun ..
   refine run 7 ?_
   obtain ⟨t35, ht35, ho⟩ := bnd ho
   refine wlp ht35 [0, 10] (fun s g => ([(13, vI (s.1))], [(v_0, .row rduty_option (s.2))])) (fun b => (.exit 2, fun g => ([], [(v_0, .row rduty_option (b))]))) [] SEL (pk [0]) NE (fun s28 g29 _ ho => ?_) fun g36 => ?_
   ·refine run 8 ?_
    refine wct ho (fun hq30 ho => ?_) fun hq30 ho => ?_
    ·refine run 3 ?_
     refine r_draw [9, 13] (by kernel_rfl) ?_
     refine run 8 ?_
     obtain ⟨x31, hx31, ho⟩ := bnd ho
     refine run 4 ?_
     obtain ⟨x32, hx32, ho⟩ := bnd ho
     refine run 2 ?_
     obtain ⟨x33, hx33, ho⟩ := bnd ho
     refine run 2 ?_
     obtain ⟨x34, hx34, ho⟩ := bnd ho
     refine run 7 ?_
     cases ho; exact s_nil (lf [] [0])
    ·cases ho; exact r_exit (lf [] [0])
   ·show SRun ..
    cases ho; exact r_ret (retm_of [0] [] (.inr rfl) .n rfl (by decide))
 ·refine run 9 ?_
  refine wct ho (fun hq37 ho => ?_) fun hq37 ho => ?_
  ·refine run 12 ?_
   obtain ⟨t52, ht52, ho⟩ := bnd ho
   refine wlp ht52 [0, 2, 4] (fun s g => ([(14, vI (s.1)), (15, vI (s.2))], [(v_0, .row rduty_option (p_0))])) (fun b => (.exit 4, fun g => ([(14, vI (b))], [(v_0, .row rduty_option (p_0))]))) [] SEL (pk [0]) NE (fun s44 g45 _ ho => ?_) fun g53 => ?_
   ·refine run 7 ?_
    refine wct ho (fun hq46 ho => ?_) fun hq46 ho => ?_
    ·refine run 8 ?_
     obtain ⟨x47, hx47, ho⟩ := bnd ho
     refine run 5 ?_
     refine r_draw [4, 8] (by kernel_rfl) ?_
     refine run 3 ?_
     obtain ⟨x48, hx48, ho⟩ := bnd ho
     refine run 4 ?_
     obtain ⟨x49, hx49, ho⟩ := bnd ho
     refine run 2 ?_
     obtain ⟨y50, hy50, ho⟩ := bnd ho
     refine s_callv (X := (duty_option × duty_option)) (Y := (Int)) (f := p_4) (x := (x48, x49)) hy50 (.n rfl) rfl rfl rfl (.t rfl) (.c (.t rfl) (.c (.t rfl) .n)) ?_
     show SOps ..
     refine run 3 ?_
     refine wct ho (fun hq51 ho => ?_) fun hq51 ho => ?_
     ·refine run 4 ?_
      cases ho; exact s_nil (lf [] [0])
     ·refine run 3 ?_
      cases ho; exact s_nil (lf [] [0])
    ·cases ho; exact r_exit (lf [] [0])
   ·show SRun ..
    refine run 7 ?_
    obtain ⟨t71, ht71, ho⟩ := bnd ho
    refine wlp ht71 [0, 14] (fun s g => ([(17, vI (s.1))], [(v_0, .row rduty_option (s.2))])) (fun b => (.exit 6, fun g => ([], [(v_0, .row rduty_option (b))]))) [] SEL (pk [0]) NE (fun s64 g65 _ ho => ?_) fun g72 => ?_
    ·refine run 7 ?_
     refine wct ho (fun hq66 ho => ?_) fun hq66 ho => ?_
     ·refine run 3 ?_
      refine r_draw [9, 13] (by kernel_rfl) ?_
      refine run 8 ?_
      obtain ⟨x67, hx67, ho⟩ := bnd ho
      refine run 4 ?_
      obtain ⟨x68, hx68, ho⟩ := bnd ho
      refine run 2 ?_
      obtain ⟨x69, hx69, ho⟩ := bnd ho
      refine run 2 ?_
      obtain ⟨x70, hx70, ho⟩ := bnd ho
      refine run 7 ?_
      cases ho; exact s_nil (lf [] [0])
     ·cases ho; exact r_exit (lf [] [0])
    ·show SRun ..
     cases ho; exact r_ret (retm_of [0] [] (.inr rfl) .n rfl (by decide))
  ·refine run 7 ?_
   obtain ⟨x73, hx73, ho⟩ := bnd ho
   refine run 23 ?_
   refine wct ho (fun hq74 ho => ?_) fun hq74 ho => ?_
   ·refine run 19 ?_
    obtain ⟨t89, ht89, ho⟩ := bnd ho
    refine wlp ht89 [0, 1, 2, 3, 4, 18, 19, 22] (fun s g => ([(20, vI (s.1)), (21, vI (s.2))], [(v_0, .row rduty_option (p_0))])) (fun b => (.exit 8, fun g => ([(20, vI (b))], [(v_0, .row rduty_option (p_0))]))) [] SEL (pk [0]) NE (fun s81 g82 _ ho => ?_) fun g90 => ?_
    ·refine run 7 ?_
     refine wct ho (fun hq83 ho => ?_) fun hq83 ho => ?_
     ·refine run 8 ?_
      obtain ⟨x84, hx84, ho⟩ := bnd ho
      refine run 5 ?_
      refine r_draw [6, 10] (by kernel_rfl) ?_
      refine run 5 ?_
      obtain ⟨x85, hx85, ho⟩ := bnd ho
      refine run 4 ?_
      obtain ⟨x86, hx86, ho⟩ := bnd ho
      refine run 2 ?_
      obtain ⟨y87, hy87, ho⟩ := bnd ho
      refine s_callv (X := (duty_option × duty_option)) (Y := (Int)) (f := p_4) (x := (x85, x86)) hy87 (.n rfl) rfl rfl rfl (.t rfl) (.c (.t rfl) (.c (.t rfl) .n)) ?_
      show SOps ..
      refine run 3 ?_
      refine wct ho (fun hq88 ho => ?_) fun hq88 ho => ?_
      ·refine run 4 ?_
       cases ho; exact s_nil (lf [] [0])
      ·refine run 3 ?_
       cases ho; exact s_nil (lf [] [0])
     ·cases ho; exact r_exit (lf [] [0])
    ·show SRun ..
     refine run 9 ?_
     obtain ⟨c92, hc92, ho⟩ := bnd ho
     refine wcx c92 [0, 1, 2, 3, 4, 18, 20, 24] (fun t => (.normal, fun _ => ([(185, vB (t))], [(v_0, .row rduty_option (p_0))]))) SEL ?_ fun _ => ?_
     ·have ho := hc92
      refine run 5 ?_
      refine wbr ho (fun hb93 ho => ?_) fun hb93 ho => ?_
      ·refine run 4 ?_
       cases ho; exact s_nil (lf [] [0])
      ·refine run 4 ?_
       cases ho; exact s_nil (lf [] [0])
     ·show SRun ..
      refine wct ho (fun hq94 ho => ?_) fun hq94 ho => ?_
      ·refine run 6 ?_
       obtain ⟨y95, hy95, ho⟩ := bnd ho
       refine s_callmd [0] [] (fun _ h => by cases h) (g_slices_rotateCmpFunc_duty_option_ok hy95 v_0) rfl rfl (by decide) rfl (.n rfl) rfl rfl rfl .f (.c (.t rfl) (.c (.t rfl) (.c (.t rfl) (.c (.t rfl) (.c (.t rfl) .n))))) ?_
       intro g96
       show SOps ..
       refine run 3 ?_
       obtain ⟨c98, hc98, ho⟩ := bnd ho
       refine wcx c98 [0, 1, 3, 4, 18, 20, 24] (fun t => (.normal, fun _ => ([(199, vB (t))], [(v_0, .row rduty_option (y95))]))) SEL ?_ fun _ => ?_
       ·have ho := hc98
        refine run 5 ?_
        refine wbr ho (fun hb99 ho => ?_) fun hb99 ho => ?_
        ·refine run 4 ?_
         cases ho; exact s_nil (lf [] [0])
        ·refine run 4 ?_
         cases ho; exact s_nil (lf [] [0])
       ·show SRun ..
        refine wct ho (fun hq100 ho => ?_) fun hq100 ho => ?_
        ·refine run 6 ?_
         obtain ⟨y101, hy101, ho⟩ := bnd ho
         refine s_callmd [0] [] (fun _ h => by cases h) (hrec hy101 v_0) rfl rfl (by decide) rfl (.n rfl) rfl rfl rfl .f (.c (.t rfl) (.c (.t rfl) (.c (.t rfl) (.c (.t rfl) (.c (.t rfl) .n))))) ?_
         intro g102
         show SOps ..
         refine run 2 ?_
         obtain ⟨c104, hc104, ho⟩ := bnd ho
         refine wcx c104 [0, 3, 4, 18, 24] (fun t => (.normal, fun _ => ([(213, vB (t))], [(v_0, .row rduty_option (y101))]))) SEL ?_ fun _ => ?_
         ·have ho := hc104
          refine run 5 ?_
          refine wbr ho (fun hb105 ho => ?_) fun hb105 ho => ?_
          ·refine run 4 ?_
           cases ho; exact s_nil (lf [] [0])
          ·refine run 4 ?_
           cases ho; exact s_nil (lf [] [0])
         ·show SRun ..
          refine wct ho (fun hq106 ho => ?_) fun hq106 ho => ?_
          ·refine run 6 ?_
           obtain ⟨y107, hy107, ho⟩ := bnd ho
           refine s_callmd [0] [] (fun _ h => by cases h) (hrec hy107 v_0) rfl rfl (by decide) rfl (.n rfl) rfl rfl rfl .f (.c (.t rfl) (.c (.t rfl) (.c (.t rfl) (.c (.t rfl) (.c (.t rfl) .n))))) ?_
           intro g108
           show SOps ..
           cases ho; exact s_nil (retm_of [0] [] (.inl rfl) .n rfl (by decide))
          ·cases ho; exact r_skip (retm_of [0] [] (.inl rfl) .n rfl (by decide))
        ·refine run 2 ?_
         obtain ⟨c110, hc110, ho⟩ := bnd ho
         refine wcx c110 [0, 3, 4, 18, 24] (fun t => (.normal, fun _ => ([(213, vB (t))], [(v_0, .row rduty_option (y95))]))) SEL ?_ fun _ => ?_
         ·have ho := hc110
          refine run 5 ?_
          refine wbr ho (fun hb111 ho => ?_) fun hb111 ho => ?_
          ·refine run 4 ?_
           cases ho; exact s_nil (lf [] [0])
          ·refine run 4 ?_
           cases ho; exact s_nil (lf [] [0])
         ·show SRun ..
          refine wct ho (fun hq112 ho => ?_) fun hq112 ho => ?_
          ·refine run 6 ?_
           obtain ⟨y113, hy113, ho⟩ := bnd ho
           refine s_callmd [0] [] (fun _ h => by cases h) (hrec hy113 v_0) rfl rfl (by decide) rfl (.n rfl) rfl rfl rfl .f (.c (.t rfl) (.c (.t rfl) (.c (.t rfl) (.c (.t rfl) (.c (.t rfl) .n))))) ?_
           intro g114
           show SOps ..
           cases ho; exact s_nil (retm_of [0] [] (.inl rfl) .n rfl (by decide))
          ·cases ho; exact r_skip (retm_of [0] [] (.inl rfl) .n rfl (by decide))
      ·refine run 3 ?_
       obtain ⟨c116, hc116, ho⟩ := bnd ho
       refine wcx c116 [0, 1, 3, 4, 18, 20, 24] (fun t => (.normal, fun _ => ([(199, vB (t))], [(v_0, .row rduty_option (p_0))]))) SEL ?_ fun _ => ?_
       ·have ho := hc116
        refine run 5 ?_
        refine wbr ho (fun hb117 ho => ?_) fun hb117 ho => ?_
        ·refine run 4 ?_
         cases ho; exact s_nil (lf [] [0])
        ·refine run 4 ?_
         cases ho; exact s_nil (lf [] [0])
       ·show SRun ..
        refine wct ho (fun hq118 ho => ?_) fun hq118 ho => ?_
        ·refine run 6 ?_
         obtain ⟨y119, hy119, ho⟩ := bnd ho
         refine s_callmd [0] [] (fun _ h => by cases h) (hrec hy119 v_0) rfl rfl (by decide) rfl (.n rfl) rfl rfl rfl .f (.c (.t rfl) (.c (.t rfl) (.c (.t rfl) (.c (.t rfl) (.c (.t rfl) .n))))) ?_
         intro g120
         show SOps ..
         refine run 2 ?_
         obtain ⟨c122, hc122, ho⟩ := bnd ho
         refine wcx c122 [0, 3, 4, 18, 24] (fun t => (.normal, fun _ => ([(213, vB (t))], [(v_0, .row rduty_option (y119))]))) SEL ?_ fun _ => ?_
         ·have ho := hc122
          refine run 5 ?_
          refine wbr ho (fun hb123 ho => ?_) fun hb123 ho => ?_
          ·refine run 4 ?_
           cases ho; exact s_nil (lf [] [0])
          ·refine run 4 ?_
           cases ho; exact s_nil (lf [] [0])
         ·show SRun ..
          refine wct ho (fun hq124 ho => ?_) fun hq124 ho => ?_
          ·refine run 6 ?_
           obtain ⟨y125, hy125, ho⟩ := bnd ho
           refine s_callmd [0] [] (fun _ h => by cases h) (hrec hy125 v_0) rfl rfl (by decide) rfl (.n rfl) rfl rfl rfl .f (.c (.t rfl) (.c (.t rfl) (.c (.t rfl) (.c (.t rfl) (.c (.t rfl) .n))))) ?_
           intro g126
           show SOps ..
           cases ho; exact s_nil (retm_of [0] [] (.inl rfl) .n rfl (by decide))
          ·cases ho; exact r_skip (retm_of [0] [] (.inl rfl) .n rfl (by decide))
        ·refine run 2 ?_
         obtain ⟨c128, hc128, ho⟩ := bnd ho
         refine wcx c128 [0, 3, 4, 18, 24] (fun t => (.normal, fun _ => ([(213, vB (t))], [(v_0, .row rduty_option (p_0))]))) SEL ?_ fun _ => ?_
         ·have ho := hc128
          refine run 5 ?_
          refine wbr ho (fun hb129 ho => ?_) fun hb129 ho => ?_
          ·refine run 4 ?_
           cases ho; exact s_nil (lf [] [0])
          ·refine run 4 ?_
           cases ho; exact s_nil (lf [] [0])
         ·show SRun ..
          refine wct ho (fun hq130 ho => ?_) fun hq130 ho => ?_
          ·refine run 6 ?_
           obtain ⟨y131, hy131, ho⟩ := bnd ho
           refine s_callmd [0] [] (fun _ h => by cases h) (hrec hy131 v_0) rfl rfl (by decide) rfl (.n rfl) rfl rfl rfl .f (.c (.t rfl) (.c (.t rfl) (.c (.t rfl) (.c (.t rfl) (.c (.t rfl) .n))))) ?_
           intro g132
           show SOps ..
           cases ho; exact s_nil (retm_of [0] [] (.inl rfl) .n rfl (by decide))
          ·cases ho; exact r_skip (retm_of [0] [] (.inl rfl) .n rfl (by decide))
   ·refine run 17 ?_
    obtain ⟨t147, ht147, ho⟩ := bnd ho
    refine wlp ht147 [0, 1, 2, 3, 4, 18, 19, 22] (fun s g => ([(20, vI (s.1)), (21, vI (s.2))], [(v_0, .row rduty_option (p_0))])) (fun b => (.exit 8, fun g => ([(20, vI (b))], [(v_0, .row rduty_option (p_0))]))) [] SEL (pk [0]) NE (fun s139 g140 _ ho => ?_) fun g148 => ?_
    ·refine run 7 ?_
     refine wct ho (fun hq141 ho => ?_) fun hq141 ho => ?_
     ·refine run 8 ?_
      obtain ⟨x142, hx142, ho⟩ := bnd ho
      refine run 5 ?_
      refine r_draw [6, 10] (by kernel_rfl) ?_
      refine run 5 ?_
      obtain ⟨x143, hx143, ho⟩ := bnd ho
      refine run 4 ?_
      obtain ⟨x144, hx144, ho⟩ := bnd ho
      refine run 2 ?_
      obtain ⟨y145, hy145, ho⟩ := bnd ho
      refine s_callv (X := (duty_option × duty_option)) (Y := (Int)) (f := p_4) (x := (x143, x144)) hy145 (.n rfl) rfl rfl rfl (.t rfl) (.c (.t rfl) (.c (.t rfl) .n)) ?_
      show SOps ..
      refine run 3 ?_
      refine wct ho (fun hq146 ho => ?_) fun hq146 ho => ?_
      ·refine run 4 ?_
       cases ho; exact s_nil (lf [] [0])
      ·refine run 3 ?_
       cases ho; exact s_nil (lf [] [0])
     ·cases ho; exact r_exit (lf [] [0])
    ·show SRun ..
     refine run 9 ?_
     obtain ⟨c150, hc150, ho⟩ := bnd ho
     refine wcx c150 [0, 1, 2, 3, 4, 18, 20, 24] (fun t => (.normal, fun _ => ([(185, vB (t))], [(v_0, .row rduty_option (p_0))]))) SEL ?_ fun _ => ?_
     ·have ho := hc150
      refine run 5 ?_
      refine wbr ho (fun hb151 ho => ?_) fun hb151 ho => ?_
      ·refine run 4 ?_
       cases ho; exact s_nil (lf [] [0])
      ·refine run 4 ?_
       cases ho; exact s_nil (lf [] [0])
     ·show SRun ..
      refine wct ho (fun hq152 ho => ?_) fun hq152 ho => ?_
      ·refine run 6 ?_
       obtain ⟨y153, hy153, ho⟩ := bnd ho
       refine s_callmd [0] [] (fun _ h => by cases h) (g_slices_rotateCmpFunc_duty_option_ok hy153 v_0) rfl rfl (by decide) rfl (.n rfl) rfl rfl rfl .f (.c (.t rfl) (.c (.t rfl) (.c (.t rfl) (.c (.t rfl) (.c (.t rfl) .n))))) ?_
       intro g154
       show SOps ..
       refine run 3 ?_
       obtain ⟨c156, hc156, ho⟩ := bnd ho
       refine wcx c156 [0, 1, 3, 4, 18, 20, 24] (fun t => (.normal, fun _ => ([(199, vB (t))], [(v_0, .row rduty_option (y153))]))) SEL ?_ fun _ => ?_
       ·have ho := hc156
        refine run 5 ?_
        refine wbr ho (fun hb157 ho => ?_) fun hb157 ho => ?_
        ·refine run 4 ?_
         cases ho; exact s_nil (lf [] [0])
        ·refine run 4 ?_
         cases ho; exact s_nil (lf [] [0])
       ·show SRun ..
        refine wct ho (fun hq158 ho => ?_) fun hq158 ho => ?_
        ·refine run 6 ?_
         obtain ⟨y159, hy159, ho⟩ := bnd ho
         refine s_callmd [0] [] (fun _ h => by cases h) (hrec hy159 v_0) rfl rfl (by decide) rfl (.n rfl) rfl rfl rfl .f (.c (.t rfl) (.c (.t rfl) (.c (.t rfl) (.c (.t rfl) (.c (.t rfl) .n))))) ?_
         intro g160
         show SOps ..
         refine run 2 ?_
         obtain ⟨c162, hc162, ho⟩ := bnd ho
         refine wcx c162 [0, 3, 4, 18, 24] (fun t => (.normal, fun _ => ([(213, vB (t))], [(v_0, .row rduty_option (y159))]))) SEL ?_ fun _ => ?_
         ·have ho := hc162
          refine run 5 ?_
          refine wbr ho (fun hb163 ho => ?_) fun hb163 ho => ?_
          ·refine run 4 ?_
           cases ho; exact s_nil (lf [] [0])
          ·refine run 4 ?_
           cases ho; exact s_nil (lf [] [0])
         ·show SRun ..
          refine wct ho (fun hq164 ho => ?_) fun hq164 ho => ?_
          ·refine run 6 ?_
           obtain ⟨y165, hy165, ho⟩ := bnd ho
           refine s_callmd [0] [] (fun _ h => by cases h) (hrec hy165 v_0) rfl rfl (by decide) rfl (.n rfl) rfl rfl rfl .f (.c (.t rfl) (.c (.t rfl) (.c (.t rfl) (.c (.t rfl) (.c (.t rfl) .n))))) ?_
           intro g166
           show SOps ..
           cases ho; exact s_nil (retm_of [0] [] (.inl rfl) .n rfl (by decide))
          ·cases ho; exact r_skip (retm_of [0] [] (.inl rfl) .n rfl (by decide))
        ·refine run 2 ?_
         obtain ⟨c168, hc168, ho⟩ := bnd ho
         refine wcx c168 [0, 3, 4, 18, 24] (fun t => (.normal, fun _ => ([(213, vB (t))], [(v_0, .row rduty_option (y153))]))) SEL ?_ fun _ => ?_
         ·have ho := hc168
          refine run 5 ?_
          refine wbr ho (fun hb169 ho => ?_) fun hb169 ho => ?_
          ·refine run 4 ?_
           cases ho; exact s_nil (lf [] [0])
          ·refine run 4 ?_
           cases ho; exact s_nil (lf [] [0])
         ·show SRun ..
          refine wct ho (fun hq170 ho => ?_) fun hq170 ho => ?_
          ·refine run 6 ?_
           obtain ⟨y171, hy171, ho⟩ := bnd ho
           refine s_callmd [0] [] (fun _ h => by cases h) (hrec hy171 v_0) rfl rfl (by decide) rfl (.n rfl) rfl rfl rfl .f (.c (.t rfl) (.c (.t rfl) (.c (.t rfl) (.c (.t rfl) (.c (.t rfl) .n))))) ?_
           intro g172
           show SOps ..
           cases ho; exact s_nil (retm_of [0] [] (.inl rfl) .n rfl (by decide))
          ·cases ho; exact r_skip (retm_of [0] [] (.inl rfl) .n rfl (by decide))
      ·refine run 3 ?_
       obtain ⟨c174, hc174, ho⟩ := bnd ho
       refine wcx c174 [0, 1, 3, 4, 18, 20, 24] (fun t => (.normal, fun _ => ([(199, vB (t))], [(v_0, .row rduty_option (p_0))]))) SEL ?_ fun _ => ?_
       ·have ho := hc174
        refine run 5 ?_
        refine wbr ho (fun hb175 ho => ?_) fun hb175 ho => ?_
        ·refine run 4 ?_
         cases ho; exact s_nil (lf [] [0])
        ·refine run 4 ?_
         cases ho; exact s_nil (lf [] [0])
       ·show SRun ..
        refine wct ho (fun hq176 ho => ?_) fun hq176 ho => ?_
        ·refine run 6 ?_
         obtain ⟨y177, hy177, ho⟩ := bnd ho
         refine s_callmd [0] [] (fun _ h => by cases h) (hrec hy177 v_0) rfl rfl (by decide) rfl (.n rfl) rfl rfl rfl .f (.c (.t rfl) (.c (.t rfl) (.c (.t rfl) (.c (.t rfl) (.c (.t rfl) .n))))) ?_
         intro g178
         show SOps ..
         refine run 2 ?_
         obtain ⟨c180, hc180, ho⟩ := bnd ho
         refine wcx c180 [0, 3, 4, 18, 24] (fun t => (.normal, fun _ => ([(213, vB (t))], [(v_0, .row rduty_option (y177))]))) SEL ?_ fun _ => ?_
         ·have ho := hc180
          refine run 5 ?_
          refine wbr ho (fun hb181 ho => ?_) fun hb181 ho => ?_
          ·refine run 4 ?_
           cases ho; exact s_nil (lf [] [0])
          ·refine run 4 ?_
           cases ho; exact s_nil (lf [] [0])
         ·show SRun ..
          refine wct ho (fun hq182 ho => ?_) fun hq182 ho => ?_
          ·refine run 6 ?_
           obtain ⟨y183, hy183, ho⟩ := bnd ho
           refine s_callmd [0] [] (fun _ h => by cases h) (hrec hy183 v_0) rfl rfl (by decide) rfl (.n rfl) rfl rfl rfl .f (.c (.t rfl) (.c (.t rfl) (.c (.t rfl) (.c (.t rfl) (.c (.t rfl) .n))))) ?_
           intro g184
           show SOps ..
           cases ho; exact s_nil (retm_of [0] [] (.inl rfl) .n rfl (by decide))
          ·cases ho; exact r_skip (retm_of [0] [] (.inl rfl) .n rfl (by decide))
        ·refine run 2 ?_
         obtain ⟨c186, hc186, ho⟩ := bnd ho
         refine wcx c186 [0, 3, 4, 18, 24] (fun t => (.normal, fun _ => ([(213, vB (t))], [(v_0, .row rduty_option (p_0))]))) SEL ?_ fun _ => ?_
         ·have ho := hc186
          refine run 5 ?_
          refine wbr ho (fun hb187 ho => ?_) fun hb187 ho => ?_
          ·refine run 4 ?_
           cases ho; exact s_nil (lf [] [0])
          ·refine run 4 ?_
           cases ho; exact s_nil (lf [] [0])
         ·show SRun ..
          refine wct ho (fun hq188 ho => ?_) fun hq188 ho => ?_
          ·refine run 6 ?_
           obtain ⟨y189, hy189, ho⟩ := bnd ho
           refine s_callmd [0] [] (fun _ h => by cases h) (hrec hy189 v_0) rfl rfl (by decide) rfl (.n rfl) rfl rfl rfl .f (.c (.t rfl) (.c (.t rfl) (.c (.t rfl) (.c (.t rfl) (.c (.t rfl) .n))))) ?_
           intro g190
           show SOps ..
           cases ho; exact s_nil (retm_of [0] [] (.inl rfl) .n rfl (by decide))
          ·cases ho; exact r_skip (retm_of [0] [] (.inl rfl) .n rfl (by decide))
theorem g_slices_symMergeCmpFunc_duty_option_ok   {k : Nat} {p_0 : (List duty_option)} {p_1 : Int} {p_2 : Int} {p_3 : Int} {p_4 : ((duty_option × duty_option) → Option (Int))} {out : ((List duty_option))} (ho : g_slices_symMergeCmpFunc_duty_option k p_0 p_1 p_2 p_3 p_4 = some out) (v_0 : AVal) : FunM ktab 96 [.raw v_0, .val (rInt .i64) p_1, .val (rInt .i64) p_2, .val (rInt .i64) p_3, .val (rFn ktab (duty_option × duty_option) (Int) (fun x => [.val rduty_option (x.1), .val rduty_option (x.2)]) (fun y => [.val (rInt .i64) (y)])) p_4] [(v_0, .row rduty_option (p_0))] [] (fun γ => [(v_0, .row rduty_option (out))]) := by
 induction k generalizing p_0 p_1 p_2 p_3 p_4 out v_0 with
 | zero => cases ho
 | succ k ih => exact g_slices_symMergeCmpFunc_duty_option_body_ok (fun h v_0 => ih h v_0) ho v_0
theorem g_slices_stableCmpFunc_duty_option_ok   {data_0 : (List duty_option)} {n_1 : Int} {cmp_2 : ((duty_option × duty_option) → Option (Int))} {out : ((List duty_option))} (ho : g_slices_stableCmpFunc_duty_option data_0 n_1 cmp_2 = some out) (v_0 : AVal) : FunM ktab 93 [.raw v_0, .val (rInt .i64) n_1, .val (rFn ktab (duty_option × duty_option) (Int) (fun x => [.val rduty_option (x.1), .val rduty_option (x.2)]) (fun y => [.val (rInt .i64) (y)])) cmp_2] [(v_0, .row rduty_option (data_0))] [] (fun γ => [(v_0, .row rduty_option (out))]) := by
 refine funm_of (F := Try.f93) (by rfl) (by rfl) (by rfl) (fun C => ?_)
 delta g_slices_stableCmpFunc_duty_option at ho
 refine run 12 ?_
 obtain ⟨t12, ht12, ho⟩ := bnd ho
 refine wlp ht12 [0, 1, 2, 6] (fun s g => ([(7, vI (s.1)), (8, vI (s.2.1))], [(v_0, .row rduty_option (s.2.2))])) (fun b => (.exit 0, fun g => ([(7, vI (b.1))], [(v_0, .row rduty_option (b.2))]))) [] SEL (pk [0]) NE (fun s7 g8 _ ho => ?_) fun g13 => ?_
 ·refine run 7 ?_
  refine wct ho (fun hq9 ho => ?_) fun hq9 ho => ?_
  ·refine run 8 ?_
   obtain ⟨y10, hy10, ho⟩ := bnd ho
   refine s_callmd [0] [] (fun _ h => by cases h) (g_slices_insertionSortCmpFunc_duty_option_ok hy10 v_0) rfl rfl (by decide) rfl (.n rfl) rfl rfl rfl .f (.c (.t rfl) (.c (.t rfl) (.c (.t rfl) (.c (.t rfl) .n)))) ?_
   intro g11
   show SOps ..
   refine run 11 ?_
   cases ho; exact s_nil (lf [] [0])
  ·cases ho; exact r_exit (lf [] [0])
 ·show SRun ..
  refine run 6 ?_
  obtain ⟨y14, hy14, ho⟩ := bnd ho
  refine s_callmd [0] [] (fun _ h => by cases h) (g_slices_insertionSortCmpFunc_duty_option_ok hy14 v_0) rfl rfl (by decide) rfl (.n rfl) rfl rfl rfl .f (.c (.t rfl) (.c (.t rfl) (.c (.t rfl) (.c (.t rfl) .n)))) ?_
  intro g15
  show SOps ..
  refine run 2 ?_
  obtain ⟨t69, ht69, ho⟩ := bnd ho
  refine wlp ht69 [0, 1, 2] (fun s g => ([(6, vI (s.1))], [(v_0, .row rduty_option (s.2))])) (fun b => (.exit 2, fun g => ([], [(v_0, .row rduty_option (b))]))) [] SEL (pk [0]) NE (fun s50 g51 _ ho => ?_) fun g70 => ?_
  ·refine run 7 ?_
   refine wct ho (fun hq52 ho => ?_) fun hq52 ho => ?_
   ·refine run 11 ?_
    obtain ⟨t64, ht64, ho⟩ := bnd ho
    refine wlp ht64 [0, 1, 2, 6] (fun s g => ([(7, vI (s.1)), (8, vI (s.2.1))], [(v_0, .row rduty_option (s.2.2))])) (fun b => (.exit 4, fun g => ([(7, vI (b.1))], [(v_0, .row rduty_option (b.2))]))) [] SEL (pk [0]) NE (fun s59 g60 _ ho => ?_) fun g65 => ?_
    ·refine run 7 ?_
     refine wct ho (fun hq61 ho => ?_) fun hq61 ho => ?_
     ·refine run 11 ?_
      obtain ⟨y62, hy62, ho⟩ := bnd ho
      refine s_callmd [0] [] (fun _ h => by cases h) (g_slices_symMergeCmpFunc_duty_option_ok hy62 v_0) rfl rfl (by decide) rfl (.n rfl) rfl rfl rfl .f (.c (.t rfl) (.c (.t rfl) (.c (.t rfl) (.c (.t rfl) (.c (.t rfl) .n))))) ?_
      intro g63
      show SOps ..
      refine run 12 ?_
      cases ho; exact s_nil (lf [] [0])
     ·cases ho; exact r_exit (lf [] [0])
    ·show SRun ..
     refine run 14 ?_
     refine wct ho (fun hq66 ho => ?_) fun hq66 ho => ?_
     ·refine run 6 ?_
      obtain ⟨y67, hy67, ho⟩ := bnd ho
      refine s_callmd [0] [] (fun _ h => by cases h) (g_slices_symMergeCmpFunc_duty_option_ok hy67 v_0) rfl rfl (by decide) rfl (.n rfl) rfl rfl rfl .f (.c (.t rfl) (.c (.t rfl) (.c (.t rfl) (.c (.t rfl) (.c (.t rfl) .n))))) ?_
      intro g68
      show SOps ..
      refine run 5 ?_
      cases ho; exact s_nil (lf [] [0])
     ·refine run 5 ?_
      cases ho; exact s_nil (lf [] [0])
   ·cases ho; exact r_exit (lf [] [0])
  ·cases ho; exact id (retm_of [0] [] (.inl rfl) .n rfl (by decide))
theorem g_slices_SortStableFunc_duty_option_duty_option_ok   {x_0 : (List duty_option)} {cmp_1 : ((duty_option × duty_option) → Option (Int))} {out : ((List duty_option))} (ho : g_slices_SortStableFunc_duty_option_duty_option x_0 cmp_1 = some out) (v_0 : AVal) : FunM ktab 86 [.raw v_0, .val (rFn ktab (duty_option × duty_option) (Int) (fun x => [.val rduty_option (x.1), .val rduty_option (x.2)]) (fun y => [.val (rInt .i64) (y)])) cmp_1] [(v_0, .row rduty_option (x_0))] [] (fun γ => [(v_0, .row rduty_option (out))]) := by
 refine funm_of (F := Try.f86) (by rfl) (by rfl) (by rfl) (fun C => ?_)
 delta g_slices_SortStableFunc_duty_option_duty_option at ho
 refine run 5 ?_
 obtain ⟨y1, hy1, ho⟩ := bnd ho
 refine s_callmd [0] [] (fun _ h => by cases h) (g_slices_stableCmpFunc_duty_option_ok hy1 v_0) rfl rfl (by decide) rfl (.n rfl) rfl rfl rfl .f (.c (.t rfl) (.c (.t rfl) (.c (.t rfl) .n))) ?_
 intro g2
 show SOps ..
 cases ho; exact s_nil (retm_of [0] [] (.inl rfl) .n rfl (by decide))
theorem g_duty_ordered_duty_option_ok   {l_0 : (List duty_option)} {order_1 : ((duty_option × duty_option) → Option (Int))} {out : (((List duty_option)))} (ho : g_duty_ordered_duty_option l_0 order_1 = some out) (v_0 : AVal) : FunM ktab 69 [.raw v_0, .val (rFn ktab (duty_option × duty_option) (Int) (fun x => [.val rduty_option (x.1), .val rduty_option (x.2)]) (fun y => [.val (rInt .i64) (y)])) order_1] [(v_0, .row rduty_option (l_0))] [.row rduty_option (out)] (fun γ => []) := by
 refine funm_of (F := Try.f69) (by rfl) (by rfl) (by rfl) (fun C => ?_)
 delta g_duty_ordered_duty_option at ho
 refine run 2 ?_
 refine s_st (st_nilrow rduty_option) ?_
 refine s_assign (.n rfl) rfl rfl .nilr ?_
 refine run 5 ?_
 obtain ⟨y2, hy2, ho⟩ := bnd ho
 refine s_callmd [1] [0] (fun _ h => by cases h) (g_slices_SortStableFunc_duty_option_duty_option_ok hy2 v_0) rfl rfl (by decide) rfl (.n rfl) rfl rfl rfl .f (.c (.t rfl) (.c (.t rfl) .n)) ?_
 intro g3
 show SOps ..
 refine run 6 ?_
 cases ho; exact r_ret (retm_of [] [] (.inr rfl) (.r 0 rfl rfl .n) rfl (by decide))
instance i71 {vals_0} : FI ktab 71 (g_cmp_Or_int vals_0) [.val (rSlice (rInt .i64)) vals_0] (fun out => [.val (rInt .i64) (out)]) := ⟨fun out ho => by
 delta g_cmp_Or_int at ho
 refine fn fun _ _ => ?_
 refine run 16 ?_
 obtain ⟨t9, ht9, ho⟩ := bnd ho
 refine wlp ht9 [3, 6, 7] (fun s g => ([(8, vI (s))], [])) (altX (fun b => (.exit 0, fun g => ([], []))) (fun b => (.ret, fun g => ([(2, vI (b))], [])))) [] SEL (pk []) NE (fun s4 g5 _ ho => ?_) fun g10 => ?_
 ·exact w ho
 ·rcases t9 with b11 | b12
  ·have ho := alt_l ho
   show SRun ..
   exact w ho
  ·have ho := alt_r ho
   cases ho; exact id (ret_of (.inr rfl) (.v rfl .n) (by decide))⟩
instance i87 {x_0} : FI ktab 87 (g_cmp_isNaN_int x_0) [vI x_0] (fun out => [.val rBool (out)]) := ⟨fun out ho => by
 delta g_cmp_isNaN_int at ho
 refine fn fun _ _ => ?_
 exact w ho⟩
instance i73 {x_0 y_1} : FI ktab 73 (g_cmp_Compare_int x_0 y_1) [vI x_0, vI y_1] (fun out => [.val (rInt .i64) (out)]) := ⟨fun out ho => by
 delta g_cmp_Compare_int at ho
 refine fn fun _ _ => ?_
 exact w ho⟩
instance i72 {a_0 b_1} : FI ktab 72 (g_duty_pieced a_0 b_1) [.val rDutyPiece a_0, .val rDutyPiece b_1] (fun out => [.val (rInt .i64) (out)]) := ⟨fun out ho => by
 delta g_duty_pieced at ho
 refine fn fun _ _ => ?_
 exact w ho⟩
instance i70 {a_0 b_1} : FI ktab 70 (g_duty_crew_options_3 a_0 b_1) [.val rduty_option a_0, .val rduty_option b_1] (fun out => [.val (rInt .i64) (out)]) := ⟨fun out ho => by
 delta g_duty_crew_options_3 at ho
 refine fn fun _ _ => ?_
 refine run 21 ?_
 obtain ⟨x1, hx1, ho⟩ := bnd ho
 refine run 3 ?_
 obtain ⟨x2, hx2, ho⟩ := bnd ho
 refine run 2 ?_
 refine xcl ho ?_
 intro y3 hy3 ho
 show SOps ..
 refine run 4 ?_
 refine xcl ho ?_
 intro y4 hy4 ho
 show SOps ..
 refine run 1 ?_
 refine xcl ho ?_
 intro y5 hy5 ho
 show SOps ..
 refine run 3 ?_
 obtain ⟨c7, hc7, ho⟩ := bnd ho
 refine wcx c7 [5, 6, 7] (fun t => (.normal, fun _ => ([(34, vB (t))], []))) SEL ?_ fun _ => ?_
 ·exact w hc7
 ·show SRun ..
  exact w ho⟩
instance i45 {c_0} : FI ktab 45 (g_duty_crew_options c_0) [.val (rPtr rduty_crew) c_0] (fun out => [.row rduty_option (out)]) := ⟨fun out ho => by
 delta g_duty_crew_options at ho
 refine fn fun _ _ => ?_
 refine run 3 ?_
 refine s_st (st_nilrow rduty_option) ?_
 refine s_assign (.n rfl) rfl rfl .nilr ?_
 refine run 3 ?_
 refine s_mkfn (X := (DutyPiece)) (Y := (Int)) (fun x => [.val rDutyPiece (x)]) (fun y => [.val (rInt .u64) (y)]) (f := (fun x => g_duty_crew_options_1 x c_0)) (fun x y hf => i66.ok _ hf) rfl (.n rfl) rfl rfl .n (.c (.t rfl) .n) ?_
 refine run 4 ?_
 refine s_st (st_nilrow rduty_option) ?_
 refine xal (zv := .nilslice) (es := [.raw .nilslice]) (by kernel_rfl) fun b3 => ?_
 refine run 3 ?_
 refine s_mkclo (.n rfl) rfl rfl .n (.c (.t rfl) (.c (.t rfl) .n)) ?_
 refine run 5 ?_
 refine xcl ho ?_
 intro y5 hy5 ho v6
 show SOps ..
 refine run 10 ?_
 obtain ⟨t176, ht176, ho⟩ := bnd ho
 refine wlp ht176 [3, 4, 5, 6, 15, 16] (fun s g => ([(17, vI (s.1))], [(v6, .row rDutyPiece (y5)), (.ptr b3 0, .box [.raw ((gh g 0))]), ((gh g 0), .row rduty_option (s.2))])) (fun b => (.exit 0, fun g => ([], [(.ptr b3 0, .box [.raw ((gh g 0))]), ((gh g 0), .row rduty_option (b))]))) [.nilslice] SEL (pk [0, 1, 2]) NE (fun s116 g117 _ ho => ?_) fun g177 => ?_
 ·refine run 5 ?_
  refine wct ho (fun hq121 ho => ?_) fun hq121 ho => ?_
  ·refine run 5 ?_
   obtain ⟨x122, hx122, ho⟩ := bnd ho
   refine run 2 ?_
   refine xal (zv := .agg [.int .i64 0, .int .i64 0, .int .i64 0]) (es := [vI (0), vI (0), vI (0)]) (by kernel_rfl) fun b123 => ?_
   refine run 1 ?_
   refine s_st (st_freezeb (R := rDutyPiece) (a := x122) 0 [8] (cells_pair (cells_one rfl) (cells_pair (cells_one rfl) (cells_pair (cells_one rfl) cells_unit rfl) rfl) rfl) rfl rfl ⟨rfl, trivial⟩) ?_
   refine run 6 ?_
   obtain ⟨y125, hy125, ho⟩ := bnd ho
   refine s_callv (X := (DutyPiece)) (Y := (Int)) (f := (fun x => g_duty_crew_options_1 x c_0)) (x := x122) hy125 (.n rfl) rfl rfl rfl (.t rfl) (.c (.t rfl) .n) ?_
   show SOps ..
   refine run 2 ?_
   obtain ⟨y126, hy126, ho⟩ := bnd ho
   refine s_callcd (ps := []) (es := [.val (rInt .u64) (y125), .val (rSlice rDutyPiece) ([x122])]) (cs := [.val (rPtr (rPtr rduty_crew)) (c_0), .raw (.ptr b3 0)]) [1, 2] [0] (fun _ h => by cases h <;> exact ⟨by kernel_rfl, by kernel_rfl⟩) (g_duty_crew_options_2_ok hy126 b3 ((gh g117 0))) rfl rfl (by decide) rfl (.n rfl) rfl rfl rfl (.t rfl) (.c (.t rfl) (.c (.t rfl) .n)) ?_
   intro g127
   show SOps ..
   refine run 8 ?_
   obtain ⟨t171, ht171, ho⟩ := bnd ho
   refine wlp ht171 [3, 4, 5, 6, 8, 15, 16, 17, 28, 29] (fun s g => ([(30, vI (s.1))], [(.ptr b3 0, .box [.raw ((gh g 0))]), (v6, .row rDutyPiece (y5)), ((gh g 0), .row rduty_option (s.2))])) (fun b => (.exit 2, fun g => ([], [(.ptr b3 0, .box [.raw ((gh g 0))]), (v6, .row rDutyPiece (y5)), ((gh g 0), .row rduty_option (b))]))) [(gh g127 0)] SEL (pk [0, 2, 1]) NE (fun s152 g153 _ ho => ?_) fun g172 => ?_
   ·refine run 5 ?_
    refine wct ho (fun hq157 ho => ?_) fun hq157 ho => ?_
    ·refine run 5 ?_
     obtain ⟨x158, hx158, ho⟩ := bnd ho
     refine run 2 ?_
     refine xal (zv := .agg [.int .i64 0, .int .i64 0, .int .i64 0]) (es := [vI (0), vI (0), vI (0)]) (by kernel_rfl) fun b159 => ?_
     refine run 1 ?_
     refine s_st (st_freezeb (R := rDutyPiece) (a := x158) 0 [10] (cells_pair (cells_one rfl) (cells_pair (cells_one rfl) (cells_pair (cells_one rfl) cells_unit rfl) rfl) rfl) rfl rfl ⟨rfl, trivial⟩) ?_
     refine run 5 ?_
     obtain ⟨y161, hy161, ho⟩ := bnd ho
     refine s_callv (X := (DutyPiece)) (Y := (Int)) (f := (fun x => g_duty_crew_options_1 x c_0)) (x := x122) hy161 (.n rfl) rfl rfl rfl (.t rfl) (.c (.t rfl) .n) ?_
     show SOps ..
     refine run 2 ?_
     obtain ⟨y162, hy162, ho⟩ := bnd ho
     refine s_callv (X := (DutyPiece)) (Y := (Int)) (f := (fun x => g_duty_crew_options_1 x c_0)) (x := x158) hy162 (.n rfl) rfl rfl rfl (.t rfl) (.c (.t rfl) .n) ?_
     show SOps ..
     refine run 3 ?_
     refine wct ho (fun hq163 ho => ?_) fun hq163 ho => ?_
     ·refine run 4 ?_
      obtain ⟨y164, hy164, ho⟩ := bnd ho
      refine s_callv (X := (DutyPiece)) (Y := (Int)) (f := (fun x => g_duty_crew_options_1 x c_0)) (x := x122) hy164 (.n rfl) rfl rfl rfl (.t rfl) (.c (.t rfl) .n) ?_
      show SOps ..
      refine run 2 ?_
      obtain ⟨y165, hy165, ho⟩ := bnd ho
      refine s_callv (X := (DutyPiece)) (Y := (Int)) (f := (fun x => g_duty_crew_options_1 x c_0)) (x := x158) hy165 (.n rfl) rfl rfl rfl (.t rfl) (.c (.t rfl) .n) ?_
      show SOps ..
      refine run 4 ?_
      obtain ⟨y166, hy166, ho⟩ := bnd ho
      refine s_callcd (ps := []) (es := [.val (rInt .u64) ((bOr .u64 y164 y165)), .val (rSlice rDutyPiece) ([x122, x158])]) (cs := [.val (rPtr (rPtr rduty_crew)) (c_0), .raw (.ptr b3 0)]) [0, 2] [1] (fun _ h => by cases h <;> exact ⟨by kernel_rfl, by kernel_rfl⟩) (g_duty_crew_options_2_ok hy166 b3 ((gh g153 0))) rfl rfl (by decide) rfl (.n rfl) rfl rfl rfl (.t rfl) (.c (.t rfl) (.c (.t rfl) .n)) ?_
      intro g167
      show SOps ..
      refine run 4 ?_
      cases ho; exact s_nil (lf [(gh g167 0)] [0, 2, 1])
     ·refine run 4 ?_
      cases ho; exact s_nil (lf [(gh g153 0)] [0, 1, 2])
    ·cases ho; exact r_exit (lf [(gh g153 0)] [0, 1, 2])
   ·show SRun ..
    refine run 3 ?_
    cases ho; exact s_nil (lf [(gh g172 0)] [1, 0, 2])
  ·cases ho; exact r_exit (lf [(gh g117 0)] [1, 2])
 ·show SRun ..
  refine run 3 ?_
  obtain ⟨y179, hy179, ho⟩ := bnd ho
  refine s_callmd [1] [0] (fun _ h => by cases h) (g_duty_ordered_duty_option_ok hy179 ((gh g177 0))) rfl rfl (by decide) rfl (.n rfl) rfl rfl rfl .f (.c (.t rfl) (.c (.fv (opd_fn (fun x y hf => i70.ok _ hf) rfl)) .n)) ?_
  intro g180
  intro v181
  exact w ho⟩
instance i22 {p_0 p_1 p_2 p_3} : FI ktab 22 (g_duty_Duties p_0 p_1 p_2 p_3) [.val (rSlice rTask) p_0, .val rYard p_1, .val (rSlice (rSlice (rInt .i64))) p_2, .val rWorkRules p_3] (fun out => [.row rDuty (out.1), .val (rInt .i64) (out.2)]) := ⟨fun out ho => by
 delta g_duty_Duties at ho
 refine fn fun _ _ => ?_
 refine run 4 ?_
 refine s_st (st_nilrow rDuty) ?_
 refine s_assign (.n rfl) rfl rfl .nilr ?_
 refine run 2 ?_
 refine r_scope (by exact ret_goto) ?_
 refine run 6 ?_
 refine xcl ho ?_
 intro y2 hy2 ho
 show SOps ..
 refine run 14 ?_
 refine wct ho (fun hq3 ho => ?_) fun hq3 ho => ?_
 ·refine run 2 ?_
  refine s_st (st_nilrow rDuty) ?_
  refine s_assign (.n rfl) rfl rfl .nilr ?_
  exact w ho
 ·refine run 7 ?_
  refine wct ho (fun hq5 ho => ?_) fun hq5 ho => ?_
  ·refine run 2 ?_
   refine s_st (st_nilrow rDuty) ?_
   refine s_assign (.n rfl) rfl rfl .nilr ?_
   exact w ho
  ·refine run 4 ?_
   obtain ⟨p7, hp7, ho⟩ := bnd ho
   refine s_st (st_someptr (n := 47) hp7 rfl) ?_
   refine xcl ho ?_
   intro y8 hy8 ho v9
   show SOps ..
   refine run 6 ?_
   obtain ⟨x11, hx11, ho⟩ := bnd ho
   refine run 6 ?_
   refine s_mkmap rduty_cost MP97 rfl (.n rfl) rfl rfl ?_
   intro b12
   refine run 1 ?_
   refine s_mapset 0 MP97 (.inr rfl) rfl (.n rfl) rfl (.t rfl) (.i (by decide) (by decide)) (.t rfl) rfl ?_
   refine run 11 ?_
   obtain ⟨t283, ht283, ho⟩ := bnd ho
   refine wlp ht283 [12, 13, 14, 57] (fun s g => ([(58, .val (rInt .u64) (s.1))], [(.map b12, .mp rduty_cost .u64 (s.2)), (v9, .row rduty_option (y8))])) (fun b => (.exit 1, fun g => ([], [(.map b12, .mp rduty_cost .u64 (b)), (v9, .row rduty_option (y8))]))) [] SEL (pk [0, 1]) NE (fun s192 g193 _ ho => ?_) fun g284 => ?_
   ·refine run 5 ?_
    refine wct ho (fun hq194 ho => ?_) fun hq194 ho => ?_
    ·refine run 23 ?_
     obtain ⟨t281, ht281, ho⟩ := bnd ho
     refine wlp ht281 [12, 13, 14, 15, 16, 57, 58, 65, 66] (fun s g => ([(67, vI (s.1))], [(.map b12, .mp rduty_cost .u64 (s.2)), (v9, .row rduty_option (y8))])) (fun b => (.exit 3, fun g => ([], [(.map b12, .mp rduty_cost .u64 (b)), (v9, .row rduty_option (y8))]))) [] SEL (pk [0, 1]) NE (fun s251 g252 _ ho => ?_) fun g282 => ?_
     ·refine run 5 ?_
      refine wct ho (fun hq253 ho => ?_) fun hq253 ho => ?_
      ·refine run 5 ?_
       obtain ⟨x254, hx254, ho⟩ := bnd ho
       refine run 2 ?_
       refine xal (zv := .agg [.nilslice, .int .u64 0, .int .i64 0]) (es := [.val (rSlice rDutyPiece) ([]), .val (rInt .u64) (0), vI (0)]) (by kernel_rfl) fun b255 => ?_
       refine run 1 ?_
       refine s_st (st_freezeb (R := rduty_option) (a := x254) 0 [18] (cells_pair (cells_pair (cells_one rfl) cells_unit rfl) (cells_pair (cells_one rfl) (cells_pair (cells_one rfl) cells_unit rfl) rfl) rfl) rfl rfl ⟨rfl, trivial⟩) ?_
       refine run 7 ?_
       refine wbr ho (fun hb259 ho => ?_) fun hb259 ho => ?_
       ·refine run 14 ?_
        refine r_cond (.t rfl) (fun _ => ?_) (fun hq => by cases hq)
        refine run 4 ?_
        cases ho; exact s_nil (lf [] [0, 1])
       ·refine run 7 ?_
        refine wbr ho (fun hb261 ho => ?_) fun hb261 ho => ?_
        ·refine run 7 ?_
         refine r_cond (.t rfl) (fun _ => ?_) (fun hq => by cases hq)
         refine run 4 ?_
         cases ho; exact s_nil (lf [] [0, 1])
        ·refine run 7 ?_
         refine wct ho (fun hq263 ho => ?_) fun hq263 ho => ?_
         ·refine run 4 ?_
          cases ho; exact s_nil (lf [] [0, 1])
         ·refine run 8 ?_
          refine s_lookok 0 rfl MP97 Z96 rfl (.n rfl) rfl rfl (.t rfl) (.t rfl) ?_
          refine run 3 ?_
          refine xal (zv := .agg [.int .i64 0, .int .i64 0]) (es := [vI (0), vI (0)]) (by kernel_rfl) fun b264 => ?_
          refine run 1 ?_
          refine s_st (st_freezeb (R := rduty_cost) (a := ((mget s251.2 ((bAndNot .u64 s192.1 x254.2.1))).getD (0, 0, ()))) 0 [19] (cells_pair (cells_one rfl) (cells_pair (cells_one rfl) cells_unit rfl) rfl) rfl rfl ⟨rfl, trivial⟩) ?_
          refine run 8 ?_
          refine wct ho (fun hq266 ho => ?_) fun hq266 ho => ?_
          ·refine run 4 ?_
           cases ho; exact s_nil (lf [] [0, 1])
          ·refine run 12 ?_
           refine xal (zv := .agg [.int .i64 0, .int .i64 0]) (es := [vI (0), vI (0)]) (by kernel_rfl) fun b267 => ?_
           refine run 1 ?_
           refine s_st (st_freezeb (R := rduty_cost) (a := (((w64 ((((mget s251.2 ((bAndNot .u64 s192.1 x254.2.1))).getD (0, 0, ()))).1 + 1)), (w64 ((((mget s251.2 ((bAndNot .u64 s192.1 x254.2.1))).getD (0, 0, ()))).2.1 + x254.2.2.1)), ()) : duty_cost)) 0 [21] (cells_pair (cells_one rfl) (cells_pair (cells_one rfl) cells_unit rfl) rfl) rfl rfl ⟨rfl, trivial⟩) ?_
           refine run 5 ?_
           refine s_lookok 0 rfl MP97 Z96 rfl (.n rfl) rfl rfl (.t rfl) (.t rfl) ?_
           refine run 3 ?_
           refine xal (zv := .agg [.int .i64 0, .int .i64 0]) (es := [vI (0), vI (0)]) (by kernel_rfl) fun b269 => ?_
           refine run 1 ?_
           refine s_st (st_freezeb (R := rduty_cost) (a := ((mget s251.2 s192.1).getD (0, 0, ()))) 0 [22] (cells_pair (cells_one rfl) (cells_pair (cells_one rfl) cells_unit rfl) rfl) rfl rfl ⟨rfl, trivial⟩) ?_
           refine run 7 ?_
           refine wbr ho (fun hb274 ho => ?_) fun hb274 ho => ?_
           ·refine run 21 ?_
            refine r_cond (.t rfl) (fun _ => ?_) (fun hq => by cases hq)
            refine run 4 ?_
            refine s_mapset 0 MP97 (.inl rfl) rfl (.n rfl) rfl (.t rfl) (.t rfl) (.t rfl) rfl ?_
            refine run 4 ?_
            cases ho; exact s_nil (lf [] [0, 1])
           ·refine run 7 ?_
            refine wbr ho (fun hb276 ho => ?_) fun hb276 ho => ?_
            ·refine run 14 ?_
             refine r_cond (.t rfl) (fun _ => ?_) (fun hq => by cases hq)
             refine run 4 ?_
             refine s_mapset 0 MP97 (.inl rfl) rfl (.n rfl) rfl (.t rfl) (.t rfl) (.t rfl) rfl ?_
             refine run 4 ?_
             cases ho; exact s_nil (lf [] [0, 1])
            ·refine run 6 ?_
             refine wbr ho (fun hb278 ho => ?_) fun hb278 ho => ?_
             ·refine run 8 ?_
              refine wct ho (fun hq279 ho => ?_) fun hq279 ho => ?_
              ·refine run 4 ?_
               refine s_mapset 0 MP97 (.inl rfl) rfl (.n rfl) rfl (.t rfl) (.t rfl) (.t rfl) rfl ?_
               refine run 4 ?_
               cases ho; exact s_nil (lf [] [0, 1])
              ·refine run 4 ?_
               cases ho; exact s_nil (lf [] [0, 1])
             ·refine run 8 ?_
              refine r_cond (.t rfl) (fun hq => by cases hq) (fun _ => ?_)
              refine run 4 ?_
              cases ho; exact s_nil (lf [] [0, 1])
      ·cases ho; exact r_exit (lf [] [0, 1])
     ·show SRun ..
      refine run 3 ?_
      cases ho; exact s_nil (lf [] [0, 1])
    ·cases ho; exact r_exit (lf [] [0, 1])
   ·show SRun ..
    refine run 4 ?_
    refine s_lookok 0 rfl MP97 Z96 rfl (.n rfl) rfl rfl (.t rfl) (.t rfl) ?_
    refine run 3 ?_
    refine xal (zv := .agg [.int .i64 0, .int .i64 0]) (es := [vI (0), vI (0)]) (by kernel_rfl) fun b285 => ?_
    refine run 9 ?_
    refine wct ho (fun hq287 ho => ?_) fun hq287 ho => ?_
    ·refine run 2 ?_
     refine s_st (st_nilrow rDuty) ?_
     refine s_assign (.n rfl) rfl rfl .nilr ?_
     exact w ho
    ·refine run 3 ?_
     refine s_st (st_nilrow rDuty) ?_
     refine s_assign (.n rfl) rfl rfl .nilr ?_
     refine run 10 ?_
     obtain ⟨t499, ht499, ho⟩ := bnd ho
     refine wlp ht499 [] (fun s g => ([(12, .raw v9), (14, .raw (.map b12)), (24, .raw (.ptr b285 0)), (26, .raw ((gh g 0))), (27, .val (rInt .u64) (s.2.1))], [(.ptr b285 0, .box [vI (s.2.2.1), vI (s.2.2.2)]), (.map b12, .mp rduty_cost .u64 (t283)), (v9, .row rduty_option (y8)), ((gh g 0), .row rDuty (s.1))])) (fun b => (.exit 5, fun g => ([(26, .raw ((gh g 0)))], [((gh g 0), .row rDuty (b))]))) [.nilslice] SEL (pk [1, 2, 3, 0]) NE (fun s425 g426 _ ho => ?_) fun g500 => ?_
     ·refine run 6 ?_
      refine wct ho (fun hq430 ho => ?_) fun hq430 ho => ?_
      ·refine run 10 ?_
       obtain ⟨t490, ht490, ho⟩ := bnd ho
       refine wlp ht490 [12, 14, 24, 152, 153] (fun s g => ([(26, .raw ((gh g 0))), (27, .val (rInt .u64) (s.2.1)), (154, vI (s.2.2.1))], [(.ptr b285 0, .box [vI (s.2.2.2.1), vI (s.2.2.2.2)]), (.map b12, .mp rduty_cost .u64 (t283)), (v9, .row rduty_option (y8)), ((gh g 0), .row rDuty (s.1))])) (altX (fun b => (.exit 6, fun g => ([(26, .raw ((gh g 0))), (27, .val (rInt .u64) (b.2.1)), (173, vB (b.2.2.1)), (176, .val rduty_cost (b.2.2.2.1)), (178, vI (b.2.2.2.2.1)), (179, vI (b.2.2.2.2.2.1)), (181, vI (b.2.2.2.2.2.2.1)), (182, .val (rPtr (rInt .i64)) (b.2.2.2.2.2.2.2.1)), (183, vI (b.2.2.2.2.2.2.2.2.1)), (184, vI (b.2.2.2.2.2.2.2.2.2.1)), (185, .val rduty_cost (b.2.2.2.2.2.2.2.2.2.2.1)), (186, vB (b.2.2.2.2.2.2.2.2.2.2.2.1))], [(.ptr b285 0, .box [vI (b.2.2.2.2.2.2.2.2.2.2.2.2.1), vI (b.2.2.2.2.2.2.2.2.2.2.2.2.2)]), (.map b12, .mp rduty_cost .u64 (t283)), (v9, .row rduty_option (y8)), ((gh g 0), .row rDuty (b.1))]))) (fun b => (.exit 7, fun g => ([(26, .raw ((gh g 0)))], [((gh g 0), .row rDuty (b.1))])))) [(gh g426 0)] SEL (pk [0, 1, 2, 3]) NE (fun s464 g465 _ ho => ?_) fun g491 => ?_
       ·refine run 5 ?_
        refine wct ho (fun hq470 ho => ?_) fun hq470 ho => ?_
        ·refine run 5 ?_
         obtain ⟨x471, hx471, ho⟩ := bnd ho
         refine run 2 ?_
         refine xal (zv := .agg [.nilslice, .int .u64 0, .int .i64 0]) (es := [.val (rSlice rDutyPiece) ([]), .val (rInt .u64) (0), vI (0)]) (by kernel_rfl) fun b472 => ?_
         refine run 1 ?_
         refine s_st (st_freezeb (R := rduty_option) (a := x471) 0 [29] (cells_pair (cells_pair (cells_one rfl) cells_unit rfl) (cells_pair (cells_one rfl) (cells_pair (cells_one rfl) cells_unit rfl) rfl) rfl) rfl rfl ⟨rfl, trivial⟩) ?_
         refine run 8 ?_
         refine s_lookok 1 rfl MP97 Z96 rfl (.n rfl) rfl rfl (.t rfl) (.t rfl) ?_
         refine run 3 ?_
         refine xal (zv := .agg [.int .i64 0, .int .i64 0]) (es := [vI (0), vI (0)]) (by kernel_rfl) fun b474 => ?_
         refine run 1 ?_
         refine s_st (st_freezeb (R := rduty_cost) (a := ((mget t283 ((bAndNot .u64 s464.2.1 x471.2.1))).getD (0, 0, ()))) 0 [30] (cells_pair (cells_one rfl) (cells_pair (cells_one rfl) cells_unit rfl) rfl) rfl rfl ⟨rfl, trivial⟩) ?_
         refine run 10 ?_
         refine wbr ho (fun hb478 ho => ?_) fun hb478 ho => ?_
         ·refine run 3 ?_
          refine wbr ho (fun hb479 ho => ?_) fun hb479 ho => ?_
          ·refine run 13 ?_
           refine wct ho (fun hq480 ho => ?_) fun hq480 ho => ?_
           ·refine run 6 ?_
            obtain ⟨x481, hx481, ho⟩ := bnd ho
            refine xap fun v482 => ?_
            refine run 12 ?_
            cases ho; exact r_exit (lf [v482] [1, 2, 3, 0])
           ·refine run 4 ?_
            cases ho; exact s_nil (lf [(gh g465 0)] [0, 1, 2, 3])
          ·refine run 13 ?_
           refine r_cond (.t rfl) (fun hq => by cases hq) (fun _ => ?_)
           refine run 4 ?_
           cases ho; exact s_nil (lf [(gh g465 0)] [0, 1, 2, 3])
         ·refine run 16 ?_
          refine r_cond (.t rfl) (fun hq => by cases hq) (fun _ => ?_)
          refine run 4 ?_
          cases ho; exact s_nil (lf [(gh g465 0)] [0, 1, 2, 3])
        ·cases ho; exact r_exit (lf [(gh g465 0)] [3])
       ·rcases t490 with b492 | b493
        ·have ho := alt_l ho
         cases ho; exact id (lf [(gh g491 0)] [0, 1, 2, 3])
        ·have ho := alt_r ho
         show SRun ..
         cases ho; exact r_exit (lf [(gh g491 0)] [0])
      ·cases ho; exact r_exit (lf [(gh g426 0)] [3])
     ·show SRun ..
      exact w ho⟩
instance i49 {a_0 b_1} : FI ktab 49 (g_ref08_Pieces a_0 b_1) [.val rDuty a_0, .val rDuty b_1] (fun out => [.val rBool (out)]) := ⟨fun out ho => by
 delta g_ref08_Pieces at ho
 refine fn fun _ _ => ?_
 refine run 17 ?_
 refine wct ho (fun hq1 ho => ?_) fun hq1 ho => ?_
 ·exact w ho
 ·refine run 7 ?_
  obtain ⟨t12, ht12, ho⟩ := bnd ho
  refine wlp ht12 [2, 3] (fun s g => ([(5, vI (s))], [])) (altX (fun b => (.exit 0, fun g => ([], []))) (fun b => (.ret, fun g => ([(4, vB (b))], [])))) [] SEL (pk []) NE (fun s6 g7 _ ho => ?_) fun g13 => ?_
  ·exact w ho
  ·rcases t12 with b14 | b15
   ·have ho := alt_l ho
    show SRun ..
    exact w ho
   ·have ho := alt_r ho
    cases ho; exact id (ret_of (.inr rfl) (.v rfl .n) (by decide))⟩
instance i26 {a_0 b_1} : FI ktab 26 (g_ref08_Plans a_0 b_1) [.val (rSlice rDuty) a_0, .val (rSlice rDuty) b_1] (fun out => [.val rBool (out)]) := ⟨fun out ho => by
 delta g_ref08_Plans at ho
 refine fn fun _ _ => ?_
 refine run 13 ?_
 refine wct ho (fun hq1 ho => ?_) fun hq1 ho => ?_
 ·exact w ho
 ·refine run 7 ?_
  obtain ⟨t14, ht14, ho⟩ := bnd ho
  refine wlp ht14 [0, 1] (fun s g => ([(5, vI (s))], [])) (altX (fun b => (.exit 0, fun g => ([], []))) (fun b => (.ret, fun g => ([(4, vB (b))], [])))) [] SEL (pk []) NE (fun s7 g8 _ ho => ?_) fun g15 => ?_
  ·exact w ho
  ·rcases t14 with b16 | b17
   ·have ho := alt_l ho
    show SRun ..
    exact w ho
   ·have ho := alt_r ho
    cases ho; exact id (ret_of (.inr rfl) (.v rfl .n) (by decide))⟩
instance i27 {p_0 p_1 p_2 p_3} : FI ktab 27 (g_duty_Bare p_0 p_1 p_2 p_3) [.val (rSlice rTask) p_0, .val rYard p_1, .val (rSlice (rSlice (rInt .i64))) p_2, .val rWorkRules p_3] (fun out => [.row (rInt .i64) (out.1), .val (rInt .i64) (out.2)]) := ⟨fun out ho => by
 delta g_duty_Bare at ho
 refine fn fun _ _ => ?_
 refine run 4 ?_
 refine s_st (st_nilrow (rInt .i64)) ?_
 refine s_assign (.n rfl) rfl rfl .nilr ?_
 refine run 8 ?_
 refine xcl ho ?_
 intro y2 hy2 ho
 show SOps ..
 refine run 12 ?_
 refine wct ho (fun hq3 ho => ?_) fun hq3 ho => ?_
 ·refine run 2 ?_
  refine s_st (st_nilrow (rInt .i64)) ?_
  refine s_assign (.n rfl) rfl rfl .nilr ?_
  exact w ho
 ·refine run 5 ?_
  obtain ⟨x5, hx5, ho⟩ := bnd ho
  refine xmk fun v6 => ?_
  refine run 6 ?_
  obtain ⟨p8, hp8, ho⟩ := bnd ho
  refine s_st (st_someptr (n := 33) hp8 rfl) ?_
  refine xcl ho ?_
  intro y9 hy9 ho v10
  show SOps ..
  refine run 4 ?_
  obtain ⟨t86, ht86, ho⟩ := bnd ho
  refine wlp ht86 [2, 10, 12, 34, 35] (fun s g => ([(36, vI (s.1))], [(v10, .row rDutyPiece (y9)), (v6, .row rBool (s.2))])) (fun b => (.exit 0, fun g => ([], [(v6, .row rBool (b))]))) [] SEL (pk [0, 1]) NE (fun s60 g61 _ ho => ?_) fun g87 => ?_
  ·refine run 5 ?_
   refine wct ho (fun hq62 ho => ?_) fun hq62 ho => ?_
   ·refine run 5 ?_
    obtain ⟨x63, hx63, ho⟩ := bnd ho
    refine run 2 ?_
    refine xal (zv := .agg [.int .i64 0, .int .i64 0, .int .i64 0]) (es := [vI (0), vI (0), vI (0)]) (by kernel_rfl) fun b64 => ?_
    refine run 1 ?_
    refine s_st (st_freezeb (R := rDutyPiece) (a := x63) 0 [14] (cells_pair (cells_one rfl) (cells_pair (cells_one rfl) (cells_pair (cells_one rfl) cells_unit rfl) rfl) rfl) rfl rfl ⟨rfl, trivial⟩) ?_
    refine run 7 ?_
    obtain ⟨p66, hp66, ho⟩ := bnd ho
    refine s_st (st_someptr (n := 40) hp66 rfl) ?_
    refine xcl ho ?_
    intro y67 hy67 ho v68
    show SOps ..
    refine run 3 ?_
    refine wct ho (fun hq70 ho => ?_) fun hq70 ho => ?_
    ·refine run 5 ?_
     obtain ⟨x71, hx71, ho⟩ := bnd ho
     refine run 7 ?_
     obtain ⟨x72, hx72, ho⟩ := bnd ho
     refine run 5 ?_
     obtain ⟨t84, ht84, ho⟩ := bnd ho
     refine wlp ht84 [2, 10, 12, 34, 35, 36, 57, 58] (fun s g => ([(59, vI (s.1))], [(v10, .row rDutyPiece (y9)), (v6, .row rBool (s.2))])) (fun b => (.exit 2, fun g => ([], [(v10, .row rDutyPiece (y9)), (v6, .row rBool (b))]))) [] SEL (pk [1, 2]) NE (fun s79 g80 _ ho => ?_) fun g85 => ?_
     ·refine run 5 ?_
      refine wct ho (fun hq81 ho => ?_) fun hq81 ho => ?_
      ·refine run 5 ?_
       obtain ⟨x82, hx82, ho⟩ := bnd ho
       refine run 7 ?_
       obtain ⟨x83, hx83, ho⟩ := bnd ho
       refine run 6 ?_
       cases ho; exact s_nil (lf [] [0, 1])
      ·cases ho; exact r_exit (lf [] [0, 1])
     ·show SRun ..
      refine run 3 ?_
      cases ho; exact s_nil (lf [] [0, 1])
    ·refine run 4 ?_
     cases ho; exact s_nil (lf [] [1, 2])
   ·cases ho; exact r_exit (lf [] [1])
  ·show SRun ..
   refine run 2 ?_
   refine s_st (st_nilrow (rInt .i64)) ?_
   refine s_assign (.n rfl) rfl rfl .nilr ?_
   refine run 9 ?_
   obtain ⟨t109, ht109, ho⟩ := bnd ho
   refine wlp ht109 [68, 69] (fun s g => ([(17, .raw ((gh g 0))), (70, vI (s.2))], [(v6, .row rBool (t86)), ((gh g 0), .row (rInt .i64) (s.1))])) (fun b => (.exit 4, fun g => ([(17, .raw ((gh g 0)))], [((gh g 0), .row (rInt .i64) (b))]))) [.nilslice] SEL (pk [1, 0]) NE (fun s96 g97 _ ho => ?_) fun g110 => ?_
   ·refine run 5 ?_
    refine wct ho (fun hq101 ho => ?_) fun hq101 ho => ?_
    ·refine run 6 ?_
     obtain ⟨x102, hx102, ho⟩ := bnd ho
     refine run 10 ?_
     refine wct ho (fun hq103 ho => ?_) fun hq103 ho => ?_
     ·refine run 4 ?_
      obtain ⟨x104, hx104, ho⟩ := bnd ho
      refine xap fun v105 => ?_
      refine run 5 ?_
      cases ho; exact s_nil (lf [v105] [1, 0])
     ·refine run 4 ?_
      cases ho; exact s_nil (lf [(gh g97 0)] [0, 1])
    ·cases ho; exact r_exit (lf [(gh g97 0)] [1])
   ·show SRun ..
    exact w ho⟩
instance i38 : FI ktab 38 (g_law08_Example) [] (fun out => [.val (rSlice rTask) (out.1), .val rYard (out.2.1), .val rWorkRules (out.2.2)]) := ⟨fun out ho => by
 delta g_law08_Example at ho
 refine fn fun _ _ => ?_
 refine run 2 ?_
 refine s_assign (.n rfl) rfl rfl (.nil (R := rTask)) ?_
 refine xal (zv := .agg [.nilslice, .int .i64 0, .nilslice]) (es := [.val (rSlice (rSlice (rInt .i64))) ([]), vI (0), .val (rSlice rBool) ([])]) (by kernel_rfl) fun b1 => ?_
 refine xal (zv := .agg [.int .i64 0, .int .i64 0, .int .i64 0, .int .i64 0, .int .i64 0, .int .i64 0]) (es := [vI (0), vI (0), vI (0), vI (0), vI (0), vI (0)]) (by kernel_rfl) fun b3 => ?_
 refine run 19 ?_
 cases ho; exact r_ret (ret_of (.inr rfl) (.v rfl (.b 1 U26 (cells_pair (cells_one rfl) (cells_pair (cells_one rfl) (cells_pair (cells_one rfl) cells_unit rfl) rfl) rfl) rfl rfl (.b 0 U42 (cells_pair (cells_one rfl) (cells_pair (cells_one rfl) (cells_pair (cells_one rfl) (cells_pair (cells_one rfl) (cells_pair (cells_one rfl) (cells_pair (cells_one rfl) cells_unit rfl) rfl) rfl) rfl) rfl) rfl) rfl rfl .n))) (by decide))⟩
instance i13 : FI ktab 13 (g_law08_known) [] (fun out => [.val rBool (out)]) := ⟨fun out ho => by
 delta g_law08_known at ho
 refine fn fun _ _ => ?_
 refine run 6 ?_
 refine xcl ho ?_
 intro y1 hy1 ho
 show SOps ..
 refine run 4 ?_
 refine xal (zv := .agg [.nilslice, .int .i64 0, .nilslice]) (es := [.val (rSlice (rSlice (rInt .i64))) ([]), vI (0), .val (rSlice rBool) ([])]) (by kernel_rfl) fun b2 => ?_
 refine xal (zv := .agg [.int .i64 0, .int .i64 0, .int .i64 0, .int .i64 0, .int .i64 0, .int .i64 0]) (es := [vI (0), vI (0), vI (0), vI (0), vI (0), vI (0)]) (by kernel_rfl) fun b4 => ?_
 refine run 2 ?_
 refine s_st (st_freezeb (R := rYard) (a := y1.2.1) 1 [2] (cells_pair (cells_one rfl) (cells_pair (cells_one rfl) (cells_pair (cells_one rfl) cells_unit rfl) rfl) rfl) rfl rfl ⟨rfl, trivial⟩) ?_
 refine run 6 ?_
 refine xcl ho ?_
 intro y6 hy6 ho v7
 show SOps ..
 refine run 4 ?_
 refine xal (zv := .agg [.nilslice, .nilslice]) (es := [.val (rSlice (rInt .i64)) ([]), .val (rSlice (rInt .i64)) ([])]) (by kernel_rfl) fun b9 => ?_
 refine run 2 ?_
 refine s_st (st_freezeb (R := rDutyProof) (a := y6.2.1) 0 [5] (cells_pair (cells_one rfl) (cells_pair (cells_one rfl) cells_unit rfl) rfl) rfl rfl ⟨rfl, trivial⟩) ?_
 refine run 9 ?_
 refine s_loadbs (R := rWorkRules) (a := y1.2.2) 1 (fun _ h => by cases h <;> rfl) U42 (cells_pair (cells_one rfl) (cells_pair (cells_one rfl) (cells_pair (cells_one rfl) (cells_pair (cells_one rfl) (cells_pair (cells_one rfl) (cells_pair (cells_one rfl) cells_unit rfl) rfl) rfl) rfl) rfl) rfl) (.n rfl) rfl rfl (.t rfl) rfl ?_
 refine xcl ho ?_
 intro y11 hy11 ho v12
 show SOps ..
 refine run 18 ?_
 refine s_loadbs (R := rWorkRules) (a := (129, y1.2.2.2.1, y1.2.2.2.2.1, y1.2.2.2.2.2.1, y1.2.2.2.2.2.2.1, y1.2.2.2.2.2.2.2.1, ())) 2 (fun _ h => by cases h <;> rfl) U42 (cells_pair (cells_one rfl) (cells_pair (cells_one rfl) (cells_pair (cells_one rfl) (cells_pair (cells_one rfl) (cells_pair (cells_one rfl) (cells_pair (cells_one rfl) cells_unit rfl) rfl) rfl) rfl) rfl) rfl) (.n rfl) rfl rfl (.t rfl) rfl ?_
 refine xcl ho ?_
 intro y14 hy14 ho v15
 show SOps ..
 refine run 8 ?_
 obtain ⟨c19, hc19, ho⟩ := bnd ho
 refine wcx c19 [4, 5, 7, 9] (fun t => (.normal, fun _ => ([(53, vB (t))], [(v15, .row (rInt .i64) (y14.1)), (v12, .row rDuty (y11.1)), (v7, .row (rSlice (rInt .i64)) (y6.1)), (.ptr b4 0, .box [vI (129), vI (y1.2.2.2.1), vI (y1.2.2.2.2.1), vI (y1.2.2.2.2.2.1), vI (y1.2.2.2.2.2.2.1), vI (y1.2.2.2.2.2.2.2.1)])]))) SEL ?_ fun _ => ?_
 ·have ho := hc19
  refine run 4 ?_
  refine wbr ho (fun hb20 ho => ?_) fun hb20 ho => ?_
  ·refine run 7 ?_
   cases ho; exact s_nil (lf [] [0, 1, 2, 3])
  ·refine run 4 ?_
   refine wbr ho (fun hb21 ho => ?_) fun hb21 ho => ?_
   ·refine run 3 ?_
    cases ho; exact s_nil (lf [] [0, 1, 2, 3])
   ·refine run 3 ?_
    cases ho; exact s_nil (lf [] [0, 1, 2, 3])
 ·show SRun ..
  refine wct ho (fun hq22 ho => ?_) fun hq22 ho => ?_
  ·exact w ho
  ·refine run 2 ?_
   obtain ⟨c32, hc32, ho⟩ := bnd ho
   refine wcx c32 [] (fun t => (.normal, fun _ => ([(0, vB (t))], [(v15, .row (rInt .i64) (y14.1)), (v12, .row rDuty (y11.1)), (v7, .row (rSlice (rInt .i64)) (y6.1)), (.ptr b4 0, .box [vI (129), vI (y1.2.2.2.1), vI (y1.2.2.2.2.1), vI (y1.2.2.2.2.2.1), vI (y1.2.2.2.2.2.2.1), vI (y1.2.2.2.2.2.2.2.1)])]))) SEL ?_ fun _ => ?_
   ·have ho := hc32
    refine run 5 ?_
    refine xcl ho ?_
    intro y33 hy33 ho
    show SOps ..
    refine run 1 ?_
    refine wbr ho (fun hb34 ho => ?_) fun hb34 ho => ?_
    ·refine run 3 ?_
     refine xcl ho ?_
     intro y35 hy35 ho
     show SOps ..
     refine run 2 ?_
     refine wbr ho (fun hb36 ho => ?_) fun hb36 ho => ?_
     ·refine run 3 ?_
      refine xcl ho ?_
      intro y37 hy37 ho
      show SOps ..
      refine run 2 ?_
      refine wbr ho (fun hb38 ho => ?_) fun hb38 ho => ?_
      ·refine run 9 ?_
       refine xcl ho ?_
       intro y39 hy39 ho
       show SOps ..
       refine run 2 ?_
       refine wbr ho (fun hb40 ho => ?_) fun hb40 ho => ?_
       ·refine run 2 ?_
        refine xcl ho ?_
        intro y41 hy41 ho
        show SOps ..
        refine run 2 ?_
        cases ho; exact s_nil (lf [] [0, 1, 2, 3])
       ·refine run 5 ?_
        cases ho; exact s_nil (lf [] [0, 1, 2, 3])
      ·refine run 17 ?_
       cases ho; exact s_nil (lf [] [0, 1, 2, 3])
     ·refine run 23 ?_
      cases ho; exact s_nil (lf [] [0, 1, 2, 3])
    ·refine run 29 ?_
     cases ho; exact s_nil (lf [] [0, 1, 2, 3])
   ·show SRun ..
    cases ho; exact r_ret (ret_of (.inr rfl) (.v rfl .n) (by decide))⟩
end Go.Ai.TabYtdhenjdmpacklaa
