/- Written by program: walks through functions. -/
import Derived.Test.YtcokdbcdlaofbaaGreatM11
set_option linter.unusedSimpArgs false
set_option linter.unusedVariables false
set_option linter.unusedSectionVars false
namespace Go.Ai.TabYtcokdbcdlaofbaaGreat
open Go Go.Ai Go.Ai.Sx Go.Proofs
attribute [local irreducible] SOps
set_option maxRecDepth 100000
set_option maxHeartbeats 4000000
instance i45 {n_0 low_1 high_2} : FI ktab 45 (g_motion_within n_0 low_1 high_2) [vI n_0, vI low_1, vI high_2] (fun out => [.val rBool (out)]) := ⟨fun out ho => by
 delta g_motion_within at ho
 refine fn fun _ _ => ?_
 refine run 5 ?_
 obtain ⟨c2, hc2, ho⟩ := bnd ho
 refine wcx c2 [] (fun t => (.normal, fun _ => ([(6, vB (t))], []))) SEL ?_ fun _ => ?_
 ·exact w hc2
 ·show SRun ..
  cases ho; exact r_ret (ret_of (.inr rfl) (.v rfl .n) (by decide))⟩
instance i86 {s_0 f_1} : FI ktab 86 (g_slices_IndexFunc_int_int s_0 f_1) [.val (rSlice (rInt .i64)) s_0, .val (rFn ktab (Int) (Bool) (fun x => [.val (rInt .i64) (x)]) (fun y => [.val rBool (y)])) f_1] (fun out => [.val (rInt .i64) (out)]) := ⟨fun out ho => by
 delta g_slices_IndexFunc_int_int at ho
 refine fn fun _ _ => ?_
 refine run 12 ?_
 obtain ⟨t11, ht11, ho⟩ := bnd ho
 refine wlp ht11 [0, 1, 7] (fun s g => ([(8, vI (s))], [])) (altX (fun b => (.exit 0, fun g => ([], []))) (fun b => (.ret, fun g => ([(4, vI (b))], [])))) [] SEL (pk []) NE (fun s5 g6 _ ho => ?_) fun g12 => ?_
 ·refine run 5 ?_
  refine wct ho (fun hq7 ho => ?_) fun hq7 ho => ?_
  ·refine run 13 ?_
   obtain ⟨x8, hx8, ho⟩ := bnd ho
   refine run 2 ?_
   obtain ⟨y9, hy9, ho⟩ := bnd ho
   refine s_callv (X := (Int)) (Y := (Bool)) (f := f_1) (x := x8) hy9 (.n rfl) rfl rfl rfl (.t rfl) (.c (.t rfl) .n) ?_
   exact w ho
  ·cases ho; exact r_exit (lf [] [])
 ·rcases t11 with b13 | b14
  ·have ho := alt_l ho
   show SRun ..
   exact w ho
  ·have ho := alt_r ho
   cases ho; exact id (ret_of (.inr rfl) (.v rfl .n) (by decide))⟩
instance i55 {s_0 f_1} : FI ktab 55 (g_slices_ContainsFunc_int_int s_0 f_1) [.val (rSlice (rInt .i64)) s_0, .val (rFn ktab (Int) (Bool) (fun x => [.val (rInt .i64) (x)]) (fun y => [.val rBool (y)])) f_1] (fun out => [.val rBool (out)]) := ⟨fun out ho => by
 delta g_slices_ContainsFunc_int_int at ho
 refine fn fun _ _ => ?_
 exact w ho⟩
instance i56 {g_0} : FI ktab 56 (g_motion_Check_1 g_0) [vI g_0] (fun out => [.val rBool (out)]) := ⟨fun out ho => by
 delta g_motion_Check_1 at ho
 refine fn fun _ _ => ?_
 exact w ho⟩
instance i32 {p_0} : FI ktab 32 (g_motion_Check p_0) [.val rTrain p_0] (fun out => [.val (rInt .i64) (out)]) := ⟨fun out ho => by
 delta g_motion_Check at ho
 refine fn fun _ _ => ?_
 refine run 7 ?_
 obtain ⟨c18, hc18, ho⟩ := bnd ho
 refine wcx c18 [1] (fun t => (.normal, fun _ => ([(54, vB (t))], []))) SEL ?_ fun _ => ?_
 ·exact w hc18
 ·show SRun ..
  refine wct ho (fun hq36 ho => ?_) fun hq36 ho => ?_
  ·exact w ho
  ·refine run 3 ?_
   obtain ⟨c40, hc40, ho⟩ := bnd ho
   refine wcx c40 [] (fun t => (.normal, fun _ => ([(64, vB (t))], []))) SEL ?_ fun _ => ?_
   ·have ho := hc40
    refine run 4 ?_
    refine xcl ho ?_
    intro y41 hy41 ho
    show SOps ..
    refine run 2 ?_
    refine wbr ho (fun hb42 ho => ?_) fun hb42 ho => ?_
    ·exact w ho
    ·refine run 2 ?_
     obtain ⟨y43, hy43, ho⟩ := bnd ho
     refine s_calll (i55.ok _ hy43) (.v flat_bool .n) rfl (.g rfl rfl (gf0 hb42)) rfl rfl rfl .f (.c (.o (.t rfl)) (.c (.o (.fv (opd_fn (fun x y hf => i56.ok _ hf) rfl))) .n)) ?_
     exact w ho
   ·show SRun ..
    exact w ho⟩
instance i62 {t_0 state_1} : FI ktab 62 (g_motion_moving t_0 state_1) [.val rTrain t_0, vI state_1] (fun out => [.val (rPtrN rmotion_mover) (out.1), .val rBool (out.2)]) := ⟨fun out ho => by
 delta g_motion_moving at ho
 refine fn fun _ _ => ?_
 refine run 3 ?_
 refine s_pure rfl (.n rfl) rfl (e := .val (rPtrN rmotion_mover) none) (fun z fr h s => ⟨_, rfl, nilptr_ok⟩) ?_
 refine run 4 ?_
 obtain ⟨c4, hc4, ho⟩ := bnd ho
 refine wcx c4 [1, 2] (fun t => (.normal, fun _ => ([(17, vB (t))], []))) SEL ?_ fun _ => ?_
 ·exact w hc4
 ·show SRun ..
  refine wct ho (fun hq8 ho => ?_) fun hq8 ho => ?_
  ·refine run 2 ?_
   refine s_pure rfl (.n rfl) rfl (e := .val (rPtrN rmotion_mover) none) (fun z fr h s => ⟨_, rfl, nilptr_ok⟩) ?_
   exact w ho
  ·refine run 10 ?_
   cases ho
   refine r_st (st_optn (n := 4) rfl) ?_
   exact r_ret (ret_of (.inr rfl) (.v rfl (.v rfl .n)) (by decide))⟩
instance i63 {m_0 x_1} : FI ktab 63 (g_motion_mover_valid m_0 x_1) [.val (rPtr rmotion_mover) m_0, .val rMotionState x_1] (fun out => [.val rBool (out)]) := ⟨fun out ho => by
 delta g_motion_mover_valid at ho
 refine fn fun _ _ => ?_
 refine run 6 ?_
 obtain ⟨c7, hc7, ho⟩ := bnd ho
 refine wcx c7 [] (fun t => (.normal, fun _ => ([(4, vB (t))], []))) SEL ?_ fun _ => ?_
 ·exact w hc7
 ·show SRun ..
  cases ho; exact r_ret (ret_of (.inr rfl) (.v rfl .n) (by decide))⟩
instance i41 {t_0 x_1 demand_2 slope_3 state_4} : FI ktab 41 (g_motion_asked t_0 x_1 demand_2 slope_3 state_4) [.val rTrain t_0, .val rMotionState x_1, vI demand_2, vI slope_3, vI state_4] (fun out => [.val (rPtrN rmotion_mover) (out.1), .val rBool (out.2)]) := ⟨fun out ho => by
 delta g_motion_asked at ho
 refine fn fun _ _ => ?_
 refine run 4 ?_
 refine s_pure rfl (.n rfl) rfl (e := .val (rPtrN rmotion_mover) none) (fun z fr h s => ⟨_, rfl, nilptr_ok⟩) ?_
 refine run 6 ?_
 refine xcl ho ?_
 intro y1 hy1 ho
 show SOps ..
 refine run 7 ?_
 obtain ⟨c9, hc9, ho⟩ := bnd ho
 refine wcx c9 [] (fun t => (.normal, fun _ => ([(10, .val (rPtrN rmotion_mover) (t.1)), (11, vB (t.2))], []))) SEL ?_ fun _ => ?_
 ·have ho := hc9
  refine run 4 ?_
  refine wbr ho (fun hb10 ho => ?_) fun hb10 ho => ?_
  ·refine run 2 ?_
   obtain ⟨p11, hp11, ho⟩ := bnd ho
   refine s_st (st_someptr (n := 23) hp11 rfl) ?_
   exact w ho
  ·exact w ho
 ·show SRun ..
  cases ho; exact r_ret (ret_of (.inr rfl) (.v rfl (.v rfl .n)) (by decide))⟩
instance i111 {m_0} : FI ktab 111 (g_motion_mover_adhesion m_0) [.val (rPtr rmotion_mover) m_0] (fun out => [.val (rInt .i64) (out)]) := ⟨fun out ho => by
 delta g_motion_mover_adhesion at ho
 refine fn fun _ _ => ?_
 exact w ho⟩
instance i88 {m_0 v_1 demand_2 slope_3} : FI ktab 88 (g_motion_mover_pull m_0 v_1 demand_2 slope_3) [.val (rPtr rmotion_mover) m_0, vI v_1, vI demand_2, vI slope_3] (fun out => [.val (rInt .i64) (out)]) := ⟨fun out ho => by
 delta g_motion_mover_pull at ho
 refine fn fun _ _ => ?_
 exact w ho⟩
instance i89 {m_0 v_1 demand_2 slope_3} : FI ktab 89 (g_motion_mover_brake m_0 v_1 demand_2 slope_3) [.val (rPtr rmotion_mover) m_0, vI v_1, vI demand_2, vI slope_3] (fun out => [.val (rInt .i64) (out)]) := ⟨fun out ho => by
 delta g_motion_mover_brake at ho
 refine fn fun _ _ => ?_
 exact w ho⟩
instance i90 {m_0 v_1 demand_2 slope_3} : FI ktab 90 (g_motion_mover_drag m_0 v_1 demand_2 slope_3) [.val (rPtr rmotion_mover) m_0, vI v_1, vI demand_2, vI slope_3] (fun out => [.val (rInt .i64) (out)]) := ⟨fun out ho => by
 delta g_motion_mover_drag at ho
 refine fn fun _ _ => ?_
 exact w ho⟩
instance i91 {m_0 v_1 demand_2 slope_3} : FI ktab 91 (g_motion_mover_hill m_0 v_1 demand_2 slope_3) [.val (rPtr rmotion_mover) m_0, vI v_1, vI demand_2, vI slope_3] (fun out => [.val (rInt .i64) (out)]) := ⟨fun out ho => by
 delta g_motion_mover_hill at ho
 refine fn fun _ _ => ?_
 exact w ho⟩
instance i64 {m_0 v_1 demand_2 slope_3} : FI ktab 64 (g_motion_mover_all m_0 v_1 demand_2 slope_3) [.val (rPtr rmotion_mover) m_0, vI v_1, vI demand_2, vI slope_3] (fun out => [.val (rArr 4 (rInt .i64)) (out)]) := ⟨fun out ho => by
 delta g_motion_mover_all at ho
 refine fn fun _ _ => ?_
 refine run 2 ?_
 refine xal (zv := .agg [.int .i64 0, .int .i64 0, .int .i64 0, .int .i64 0]) (es := [.raw (.int .i64 0), .raw (.int .i64 0), .raw (.int .i64 0), .raw (.int .i64 0)]) (by kernel_rfl) fun b1 => ?_
 refine run 3 ?_
 refine s_alloca (R := (rInt .i64)) (x := 0) AR128 (zc := [.int .i64 0, .int .i64 0, .int .i64 0, .int .i64 0]) (by kernel_rfl) (zarr (fun _ => zint) rfl) (by decide) (.n rfl) rfl rfl ?_
 intro b2
 refine run 5 ?_
 refine s_mkfn (X := (Int × Int × Int)) (Y := (Int)) (fun x => [.val (rInt .i64) (x.1), .val (rInt .i64) (x.2.1), .val (rInt .i64) (x.2.2)]) (fun y => [.val (rInt .i64) (y)]) (f := (fun x => g_motion_mover_pull m_0 x.1 x.2.1 x.2.2)) (fun x y hf => i88.ok _ hf) rfl (.n rfl) rfl rfl (.c (.t rfl) .n) .n ?_
 refine run 1 ?_
 refine s_mkfn (X := (Int × Int × Int)) (Y := (Int)) (fun x => [.val (rInt .i64) (x.1), .val (rInt .i64) (x.2.1), .val (rInt .i64) (x.2.2)]) (fun y => [.val (rInt .i64) (y)]) (f := (fun x => g_motion_mover_brake m_0 x.1 x.2.1 x.2.2)) (fun x y hf => i89.ok _ hf) rfl (.n rfl) rfl rfl (.c (.t rfl) .n) .n ?_
 refine run 1 ?_
 refine s_mkfn (X := (Int × Int × Int)) (Y := (Int)) (fun x => [.val (rInt .i64) (x.1), .val (rInt .i64) (x.2.1), .val (rInt .i64) (x.2.2)]) (fun y => [.val (rInt .i64) (y)]) (f := (fun x => g_motion_mover_drag m_0 x.1 x.2.1 x.2.2)) (fun x y hf => i90.ok _ hf) rfl (.n rfl) rfl rfl (.c (.t rfl) .n) .n ?_
 refine run 1 ?_
 refine s_mkfn (X := (Int × Int × Int)) (Y := (Int)) (fun x => [.val (rInt .i64) (x.1), .val (rInt .i64) (x.2.1), .val (rInt .i64) (x.2.2)]) (fun y => [.val (rInt .i64) (y)]) (f := (fun x => g_motion_mover_hill m_0 x.1 x.2.1 x.2.2)) (fun x y hf => i91.ok _ hf) rfl (.n rfl) rfl rfl (.c (.t rfl) .n) .n ?_
 refine s_builda (R := (rFn ktab (Int × Int × Int) (Int) (fun x => [.val (rInt .i64) (x.1), .val (rInt .i64) (x.2.1), .val (rInt .i64) (x.2.2)]) (fun y => [.val (rInt .i64) (y)]))) (zc := [.nilfunc, .nilfunc, .nilfunc, .nilfunc]) AR158 (by kernel_rfl) (by rfl) (.n rfl) rfl rfl (.c (.t rfl) (.c (.t rfl) (.c (.t rfl) (.c (.t rfl) .n)))) (by rfl) ?_
 refine run 3 ?_
 obtain ⟨t17, ht17, ho⟩ := bnd ho
 refine wlp ht17 [1, 2, 3, 8, 9, 20] (fun s g => ([(21, vI (s.1))], [((.slice b2 0 4 1 (some 4)), .row (rInt .i64) (s.2)), (.ptr b1 0, .box [.raw (.int .i64 0), .raw (.int .i64 0), .raw (.int .i64 0), .raw (.int .i64 0)])])) (fun b => (.exit 0, fun g => ([], [((.slice b2 0 4 1 (some 4)), .row (rInt .i64) (b)), (.ptr b1 0, .box [.raw (.int .i64 0), .raw (.int .i64 0), .raw (.int .i64 0), .raw (.int .i64 0)])]))) [] SEL (pk [0, 1]) NE (fun s11 g12 _ ho => ?_) fun g18 => ?_
 ·refine run 5 ?_
  refine wct ho (fun hq13 ho => ?_) fun hq13 ho => ?_
  ·refine run 6 ?_
   obtain ⟨x14, hx14, ho⟩ := bnd ho
   refine run 10 ?_
   obtain ⟨y15, hy15, ho⟩ := bnd ho
   refine s_callv (X := (Int × Int × Int)) (Y := (Int)) (f := x14) (x := (v_1, demand_2, slope_3)) hy15 (.n rfl) rfl rfl rfl (.t rfl) (.c (.t rfl) (.c (.t rfl) (.c (.t rfl) .n))) ?_
   show SOps ..
   obtain ⟨x16, hx16, ho⟩ := bnd ho
   refine run 6 ?_
   cases ho; exact s_nil (lf [] [0, 1])
  ·cases ho; exact r_exit (lf [] [0, 1])
 ·show SRun ..
  refine run 2 ?_
  refine s_loada 0 (fun _ h => by cases h <;> rfl) AR128 rfl (.n rfl) rfl rfl (.t rfl) ?_
  refine s_storeab 1 AR128 rfl (by rfl) (by decide) (.n rfl) rfl rfl (.t rfl) (.t rfl) (by rfl) ?_
  refine run 1 ?_
  cases ho; exact r_ret (ret_of (.inr rfl) (.a 1 AR128 rfl rfl .n) (by decide))⟩
instance i65 {m_0 x_1} : FI ktab 65 (g_motion_mover_speed m_0 x_1) [.val (rPtr rmotion_mover) m_0, .val rMotionState x_1] (fun out => [.val (rInt .i64) (out)]) := ⟨fun out ho => by
 delta g_motion_mover_speed at ho
 refine fn fun _ _ => ?_
 exact w ho⟩
instance i42 {p_0 p_1 p_2 p_3} : FI ktab 42 (g_motion_mover_step p_0 p_1 p_2 p_3) [.val (rPtr rmotion_mover) p_0, .val rMotionState p_1, vI p_2, vI p_3] (fun out => [.val rmotion_stepped (out.1), .val rBool (out.2)]) := ⟨fun out ho => by
 delta g_motion_mover_step at ho
 refine fn fun _ _ => ?_
 refine run 3 ?_
 refine xal (zv := .agg [.int .i64 0, .int .i64 0, .int .i64 0, .int .i64 0, .int .i64 0, .int .i64 0, .int .i64 0, .int .i64 0, .int .i64 0, .int .i64 0]) (es := [vI (0), vI (0), vI (0), vI (0), vI (0), vI (0), vI (0), vI (0), vI (0), vI (0)]) (by kernel_rfl) fun b1 => ?_
 refine run 7 ?_
 refine xcl ho ?_
 intro y2 hy2 ho
 show SOps ..
 refine run 2 ?_
 refine xcl ho ?_
 intro y3 hy3 ho
 show SOps ..
 refine xal (zv := .agg [.int .i64 0, .int .i64 0, .int .i64 0, .int .i64 0]) (es := [.raw (.int .i64 0), .raw (.int .i64 0), .raw (.int .i64 0), .raw (.int .i64 0)]) (by kernel_rfl) fun b4 => ?_
 refine s_storeab 0 AR128 rfl (by rfl) (by decide) (.n rfl) rfl rfl (.t rfl) (.t rfl) (by rfl) ?_
 refine s_st (st_freezea (R := (rInt .i64)) 0 [10] (by decide) (by decide) rfl rfl ⟨rfl, trivial⟩) ?_
 refine run 3 ?_
 obtain ⟨x5, hx5, ho⟩ := bnd ho
 refine s_idxqa AR128 hx5 (.n rfl) rfl rfl (.t rfl) (.i (by decide) (by decide)) ?_
 refine run 1 ?_
 obtain ⟨x6, hx6, ho⟩ := bnd ho
 refine s_idxqa AR128 hx6 (.n rfl) rfl rfl (.t rfl) (.i (by decide) (by decide)) ?_
 refine run 2 ?_
 obtain ⟨x7, hx7, ho⟩ := bnd ho
 refine s_idxqa AR128 hx7 (.n rfl) rfl rfl (.t rfl) (.i (by decide) (by decide)) ?_
 refine run 2 ?_
 obtain ⟨x8, hx8, ho⟩ := bnd ho
 refine s_idxqa AR128 hx8 (.n rfl) rfl rfl (.t rfl) (.i (by decide) (by decide)) ?_
 refine run 18 ?_
 refine xal (zv := .agg [.int .i64 0, .int .i64 0, .int .i64 0, .int .i64 0, .int .i64 0, .int .i64 0, .int .i64 0, .int .i64 0, .int .i64 0, .int .i64 0]) (es := [vI (0), vI (0), vI (0), vI (0), vI (0), vI (0), vI (0), vI (0), vI (0), vI (0)]) (by kernel_rfl) fun b9 => ?_
 refine run 3 ?_
 obtain ⟨c12, hc12, ho⟩ := bnd ho
 refine wcx c12 [0, 5, 8, 10, 11, 12, 13, 14] (fun t => (.normal, fun _ => ([(49, vB (t))], [(.ptr b9 0, .box [vI (0), vI (0), vI (0), vI (0), vI (0), vI (0), vI (0), vI (0), vI (0), vI (0)]), (.ptr b1 0, .box [vI (0), vI (0), vI (0), vI (0), vI (0), vI (0), vI (0), vI (0), vI (0), vI (0)])]))) SEL ?_ fun _ => ?_
 ·have ho := hc12
  refine run 4 ?_
  refine wbr ho (fun hb13 ho => ?_) fun hb13 ho => ?_
  ·refine run 7 ?_
   cases ho; exact s_nil (lf [] [0, 1])
  ·refine run 3 ?_
   refine wbr ho (fun hb14 ho => ?_) fun hb14 ho => ?_
   ·refine run 4 ?_
    cases ho; exact s_nil (lf [] [0, 1])
   ·refine run 4 ?_
    cases ho; exact s_nil (lf [] [0, 1])
 ·show SRun ..
  refine wct ho (fun hq15 ho => ?_) fun hq15 ho => ?_
  ·refine run 21 ?_
   refine s_storebp (off := 0) (es' := [vI (0), vI ((w64 (p_1.2.1 + 0)))]) 0 U26 rfl (cells_pair (cells_one rfl) (cells_pair (cells_one rfl) cells_unit rfl) rfl) (by exact Nat.le_of_ble_eq_true rfl) (.n rfl) rfl rfl (.t rfl) (.t rfl) (by rfl) ?_
   refine run 3 ?_
   obtain ⟨x20, hx20, ho⟩ := bnd ho
   refine s_idxqa AR128 hx20 (.n rfl) rfl rfl (.t rfl) (.i (by decide) (by decide)) ?_
   refine run 4 ?_
   obtain ⟨x21, hx21, ho⟩ := bnd ho
   refine s_idxqa AR128 hx21 (.n rfl) rfl rfl (.t rfl) (.i (by decide) (by decide)) ?_
   refine run 4 ?_
   obtain ⟨x22, hx22, ho⟩ := bnd ho
   refine s_idxqa AR128 hx22 (.n rfl) rfl rfl (.t rfl) (.i (by decide) (by decide)) ?_
   refine run 4 ?_
   obtain ⟨x23, hx23, ho⟩ := bnd ho
   refine s_idxqa AR128 hx23 (.n rfl) rfl rfl (.t rfl) (.i (by decide) (by decide)) ?_
   refine run 19 ?_
   obtain ⟨x26, hx26, ho⟩ := bnd ho
   refine s_idxqa AR128 hx26 (.n rfl) rfl rfl (.t rfl) (.i (by decide) (by decide)) ?_
   refine run 17 ?_
   obtain ⟨x27, hx27, ho⟩ := bnd ho
   refine run 6 ?_
   obtain ⟨x30, hx30, ho⟩ := bnd ho
   refine s_idxqa AR128 hx30 (.n rfl) rfl rfl (.t rfl) (.i (by decide) (by decide)) ?_
   refine run 15 ?_
   obtain ⟨x31, hx31, ho⟩ := bnd ho
   refine run 5 ?_
   refine r_draw [0] (by kernel_rfl) ?_
   refine s_loadbs (R := rmotion_stepped) (a := ((0, (w64 (p_1.2.1 + 0)), ()), ((w64 ((w64 (200 * x20)) * 0)), (w64 ((w64 (200 * x21)) * 0)), (w64 ((w64 (200 * x22)) * 0)), (w64 ((w64 (200 * x23)) * 0)), 0, (w64 (p_1.1 * p_1.1)), ()), x27, x31, ())) 0 (fun _ h => by cases h <;> rfl) U89 (cells_pair (cells_pair (cells_one rfl) (cells_pair (cells_one rfl) cells_unit rfl) rfl) (cells_pair (cells_pair (cells_one rfl) (cells_pair (cells_one rfl) (cells_pair (cells_one rfl) (cells_pair (cells_one rfl) (cells_pair (cells_one rfl) (cells_pair (cells_one rfl) cells_unit rfl) rfl) rfl) rfl) rfl) rfl) (cells_pair (cells_one rfl) (cells_pair (cells_one rfl) cells_unit rfl) rfl) rfl) rfl) (.n rfl) rfl rfl (.t rfl) rfl ?_
   refine run 11 ?_
   cases ho; exact r_ret (ret_of (.inr rfl) (.b 1 U89 (cells_pair (cells_pair (cells_one rfl) (cells_pair (cells_one rfl) cells_unit rfl) rfl) (cells_pair (cells_pair (cells_one rfl) (cells_pair (cells_one rfl) (cells_pair (cells_one rfl) (cells_pair (cells_one rfl) (cells_pair (cells_one rfl) (cells_pair (cells_one rfl) cells_unit rfl) rfl) rfl) rfl) rfl) rfl) (cells_pair (cells_one rfl) (cells_pair (cells_one rfl) cells_unit rfl) rfl) rfl) rfl) rfl rfl (.v rfl .n)) (by decide))
  ·refine run 18 ?_
   refine s_storebp (off := 0) (es' := [vI ((w64 (p_1.1 + (w64 (100 * (w64 ((w64 ((w64 (x5 - x6)) - x7)) - x8))))))), vI ((w64 (p_1.2.1 + (w64 (p_1.1 + (w64 (100 * (w64 ((w64 ((w64 (x5 - x6)) - x7)) - x8)))))))))]) 0 U26 rfl (cells_pair (cells_one rfl) (cells_pair (cells_one rfl) cells_unit rfl) rfl) (by exact Nat.le_of_ble_eq_true rfl) (.n rfl) rfl rfl (.t rfl) (.t rfl) (by rfl) ?_
   refine run 3 ?_
   obtain ⟨x36, hx36, ho⟩ := bnd ho
   refine s_idxqa AR128 hx36 (.n rfl) rfl rfl (.t rfl) (.i (by decide) (by decide)) ?_
   refine run 4 ?_
   obtain ⟨x37, hx37, ho⟩ := bnd ho
   refine s_idxqa AR128 hx37 (.n rfl) rfl rfl (.t rfl) (.i (by decide) (by decide)) ?_
   refine run 4 ?_
   obtain ⟨x38, hx38, ho⟩ := bnd ho
   refine s_idxqa AR128 hx38 (.n rfl) rfl rfl (.t rfl) (.i (by decide) (by decide)) ?_
   refine run 4 ?_
   obtain ⟨x39, hx39, ho⟩ := bnd ho
   refine s_idxqa AR128 hx39 (.n rfl) rfl rfl (.t rfl) (.i (by decide) (by decide)) ?_
   refine run 19 ?_
   obtain ⟨x42, hx42, ho⟩ := bnd ho
   refine s_idxqa AR128 hx42 (.n rfl) rfl rfl (.t rfl) (.i (by decide) (by decide)) ?_
   refine run 17 ?_
   obtain ⟨x43, hx43, ho⟩ := bnd ho
   refine run 6 ?_
   obtain ⟨x46, hx46, ho⟩ := bnd ho
   refine s_idxqa AR128 hx46 (.n rfl) rfl rfl (.t rfl) (.i (by decide) (by decide)) ?_
   refine run 15 ?_
   obtain ⟨x47, hx47, ho⟩ := bnd ho
   refine run 5 ?_
   refine r_draw [0] (by kernel_rfl) ?_
   refine s_loadbs (R := rmotion_stepped) (a := (((w64 (p_1.1 + (w64 (100 * (w64 ((w64 ((w64 (x5 - x6)) - x7)) - x8)))))), (w64 (p_1.2.1 + (w64 (p_1.1 + (w64 (100 * (w64 ((w64 ((w64 (x5 - x6)) - x7)) - x8)))))))), ()), ((w64 ((w64 (200 * x36)) * (w64 (p_1.1 + (w64 (100 * (w64 ((w64 ((w64 (x5 - x6)) - x7)) - x8)))))))), (w64 ((w64 (200 * x37)) * (w64 (p_1.1 + (w64 (100 * (w64 ((w64 ((w64 (x5 - x6)) - x7)) - x8)))))))), (w64 ((w64 (200 * x38)) * (w64 (p_1.1 + (w64 (100 * (w64 ((w64 ((w64 (x5 - x6)) - x7)) - x8)))))))), (w64 ((w64 (200 * x39)) * (w64 (p_1.1 + (w64 (100 * (w64 ((w64 ((w64 (x5 - x6)) - x7)) - x8)))))))), (w64 ((w64 (10000 * (w64 ((w64 ((w64 (x5 - x6)) - x7)) - x8)))) * (w64 ((w64 ((w64 (x5 - x6)) - x7)) - x8)))), 0, ()), x43, x47, ())) 0 (fun _ h => by cases h <;> rfl) U89 (cells_pair (cells_pair (cells_one rfl) (cells_pair (cells_one rfl) cells_unit rfl) rfl) (cells_pair (cells_pair (cells_one rfl) (cells_pair (cells_one rfl) (cells_pair (cells_one rfl) (cells_pair (cells_one rfl) (cells_pair (cells_one rfl) (cells_pair (cells_one rfl) cells_unit rfl) rfl) rfl) rfl) rfl) rfl) (cells_pair (cells_one rfl) (cells_pair (cells_one rfl) cells_unit rfl) rfl) rfl) rfl) (.n rfl) rfl rfl (.t rfl) rfl ?_
   refine run 11 ?_
   cases ho; exact r_ret (ret_of (.inr rfl) (.b 1 U89 (cells_pair (cells_pair (cells_one rfl) (cells_pair (cells_one rfl) cells_unit rfl) rfl) (cells_pair (cells_pair (cells_one rfl) (cells_pair (cells_one rfl) (cells_pair (cells_one rfl) (cells_pair (cells_one rfl) (cells_pair (cells_one rfl) (cells_pair (cells_one rfl) cells_unit rfl) rfl) rfl) rfl) rfl) rfl) (cells_pair (cells_one rfl) (cells_pair (cells_one rfl) cells_unit rfl) rfl) rfl) rfl) rfl rfl (.v rfl .n)) (by decide))⟩
instance i16 {t_0 x_1 demand_2 slope_3 state_4} : FI ktab 16 (g_motion_Step t_0 x_1 demand_2 slope_3 state_4) [.val rTrain t_0, .val rMotionState x_1, vI demand_2, vI slope_3, vI state_4] (fun out => [.val rMotionState (out.1), .val rMotionLedger (out.2.1), .val (rInt .i64) (out.2.2)]) := ⟨fun out ho => by
 delta g_motion_Step at ho
 refine fn fun _ _ => ?_
 refine run 4 ?_
 refine xal (zv := .agg [.int .i64 0, .int .i64 0]) (es := [vI (0), vI (0)]) (by kernel_rfl) fun b1 => ?_
 refine xal (zv := .agg [.int .i64 0, .int .i64 0, .int .i64 0, .int .i64 0, .int .i64 0, .int .i64 0]) (es := [vI (0), vI (0), vI (0), vI (0), vI (0), vI (0)]) (by kernel_rfl) fun b2 => ?_
 refine run 9 ?_
 refine xcl ho ?_
 intro y3 hy3 ho
 show SOps ..
 refine run 12 ?_
 refine wct ho (fun hq4 ho => ?_) fun hq4 ho => ?_
 ·refine run 8 ?_
  cases ho; exact r_ret (ret_of (.inr rfl) (.b 1 U26 (cells_pair (cells_one rfl) (cells_pair (cells_one rfl) cells_unit rfl) rfl) rfl rfl (.b 0 U31 (cells_pair (cells_one rfl) (cells_pair (cells_one rfl) (cells_pair (cells_one rfl) (cells_pair (cells_one rfl) (cells_pair (cells_one rfl) (cells_pair (cells_one rfl) cells_unit rfl) rfl) rfl) rfl) rfl) rfl) rfl rfl (.v rfl .n))) (by decide))
 ·refine run 7 ?_
  obtain ⟨p5, hp5, ho⟩ := bnd ho
  refine s_st (st_someptr (n := 30) hp5 rfl) ?_
  refine xcl ho ?_
  intro y6 hy6 ho
  show SOps ..
  refine run 3 ?_
  refine xal (zv := .agg [.int .i64 0, .int .i64 0, .int .i64 0, .int .i64 0, .int .i64 0, .int .i64 0, .int .i64 0, .int .i64 0, .int .i64 0, .int .i64 0]) (es := [vI (0), vI (0), vI (0), vI (0), vI (0), vI (0), vI (0), vI (0), vI (0), vI (0)]) (by kernel_rfl) fun b7 => ?_
  refine run 1 ?_
  refine s_st (st_freezeb (R := rmotion_stepped) (a := y6.1) 0 [15] (cells_pair (cells_pair (cells_one rfl) (cells_pair (cells_one rfl) cells_unit rfl) rfl) (cells_pair (cells_pair (cells_one rfl) (cells_pair (cells_one rfl) (cells_pair (cells_one rfl) (cells_pair (cells_one rfl) (cells_pair (cells_one rfl) (cells_pair (cells_one rfl) cells_unit rfl) rfl) rfl) rfl) rfl) rfl) (cells_pair (cells_one rfl) (cells_pair (cells_one rfl) cells_unit rfl) rfl) rfl) rfl) rfl rfl ⟨rfl, trivial⟩) ?_
  refine run 4 ?_
  obtain ⟨c9, hc9, ho⟩ := bnd ho
  refine wcx c9 [10, 11, 15] (fun t => (.normal, fun _ => ([(44, vB (t))], [(.ptr b2 0, .box [vI (0), vI (0), vI (0), vI (0), vI (0), vI (0)]), (.ptr b1 0, .box [vI (0), vI (0)])]))) SEL ?_ fun _ => ?_
  ·have ho := hc9
   refine run 4 ?_
   refine wbr ho (fun hb10 ho => ?_) fun hb10 ho => ?_
   ·refine run 5 ?_
    cases ho; exact s_nil (lf [] [0, 1])
   ·refine run 5 ?_
    cases ho; exact s_nil (lf [] [0, 1])
  ·show SRun ..
   refine wct ho (fun hq11 ho => ?_) fun hq11 ho => ?_
   ·refine run 8 ?_
    cases ho; exact r_ret (ret_of (.inr rfl) (.b 1 U26 (cells_pair (cells_one rfl) (cells_pair (cells_one rfl) cells_unit rfl) rfl) rfl rfl (.b 0 U31 (cells_pair (cells_one rfl) (cells_pair (cells_one rfl) (cells_pair (cells_one rfl) (cells_pair (cells_one rfl) (cells_pair (cells_one rfl) (cells_pair (cells_one rfl) cells_unit rfl) rfl) rfl) rfl) rfl) rfl) rfl rfl (.v rfl .n))) (by decide))
   ·refine run 11 ?_
    cases ho; exact r_ret (ret_of (.inr rfl) (.b 1 U26 (cells_pair (cells_one rfl) (cells_pair (cells_one rfl) cells_unit rfl) rfl) rfl rfl (.b 0 U31 (cells_pair (cells_one rfl) (cells_pair (cells_one rfl) (cells_pair (cells_one rfl) (cells_pair (cells_one rfl) (cells_pair (cells_one rfl) (cells_pair (cells_one rfl) cells_unit rfl) rfl) rfl) rfl) rfl) rfl) rfl rfl (.v rfl .n))) (by decide))⟩
theorem g_motion_mover_stopping_1_ok {σ τ : Type} {step : σ → (MotionState) → Option (σ ⊕ τ)} {yv : AVal} {K : σ ⊕ τ → List AVal → Sx.Obj} (hcb : CbAt ktab yv (fun x => [.val rMotionState (x)]) step K) {s_ : σ} {p_1 : MotionState} {p_2 : motion_mover} {p_3 : ((MotionState) → Option (Int))} {out : ((σ ⊕ τ) × MotionState)} (ho : g_motion_mover_stopping_1 step s_ p_1 p_2 p_3 = some out) (b_1 : Nat) (γ0 : List AVal) : FunM ktab 92 [.raw yv, .raw (.ptr b_1 0), .val (rPtr (rPtr rmotion_mover)) p_2, .val (rPtr (rFn ktab (MotionState) (Int) (fun x => [.val rMotionState (x)]) (fun y => [.val (rInt .i64) (y)]))) p_3] [(yv, K (.inl s_) γ0), (.ptr b_1 0, .box [vI (p_1.1), vI (p_1.2.1)])] [] (fun γ => [(yv, K (out.1) (untup (gh γ 0))), (.ptr b_1 0, .box [vI (out.2.1), vI (out.2.2.1)])]) := by
 refine funm_of (F := Tryz.f92) (by rfl) (by rfl) (by rfl) (fun C => ?_)
 delta g_motion_mover_stopping_1 at ho
 refine run 5 ?_
 obtain ⟨t41, ht41, ho⟩ := bnd ho
 refine wlp ht41 [0, 1, 2, 3] (fun s g => ([(7, vI (s.1))], [(yv, K s.2.1 ((untup (gh g 0)))), (.ptr b_1 0, .box [vI (s.2.2.1), vI (s.2.2.2)])])) (altX (fun b => (.exit 0, fun g => ([], [(yv, K b.1 ((untup (gh g 0)))), (.ptr b_1 0, .box [vI (b.2.1), vI (b.2.2)])]))) (fun b => (.ret, fun g => ([], [(yv, K b.1 ((untup (gh g 0)))), (.ptr b_1 0, .box [vI (b.2.1), vI (b.2.2)])])))) [.tuple γ0] SEL (pk [0, 1]) NE (fun s26 g27 _ ho => ?_) fun g42 => ?_
 ·refine run 5 ?_
  refine wct ho (fun hq28 ho => ?_) fun hq28 ho => ?_
  ·refine run 10 ?_
   refine wct ho (fun hq29 ho => ?_) fun hq29 ho => ?_
   ·cases ho; exact r_ret (lf [.tuple ((untup (gh g27 0)))] [0, 1])
   ·refine run 2 ?_
    refine r_draw [1, 3] (by kernel_rfl) ?_
    refine run 1 ?_
    refine s_loadbs (R := rMotionState) (a := (s26.2.2.1, s26.2.2.2, ())) 1 (fun _ h => by cases h <;> rfl) U26 (cells_pair (cells_one rfl) (cells_pair (cells_one rfl) cells_unit rfl) rfl) (.n rfl) rfl rfl (.t rfl) rfl ?_
    refine run 1 ?_
    refine s_loadbs (R := rMotionState) (a := (s26.2.2.1, s26.2.2.2, ())) 1 (fun _ h => by cases h <;> rfl) U26 (cells_pair (cells_one rfl) (cells_pair (cells_one rfl) cells_unit rfl) rfl) (.n rfl) rfl rfl (.t rfl) rfl ?_
    obtain ⟨y33, hy33, ho⟩ := bnd ho
    refine s_callv (X := (MotionState)) (Y := (Int)) (f := p_3) (x := (s26.2.2.1, s26.2.2.2, ())) hy33 (.n rfl) rfl rfl rfl (.t rfl) (.c (.t rfl) .n) ?_
    show SOps ..
    refine xcl ho ?_
    intro y34 hy34 ho
    show SOps ..
    refine run 3 ?_
    refine xal (zv := .agg [.int .i64 0, .int .i64 0, .int .i64 0, .int .i64 0, .int .i64 0, .int .i64 0, .int .i64 0, .int .i64 0, .int .i64 0, .int .i64 0]) (es := [vI (0), vI (0), vI (0), vI (0), vI (0), vI (0), vI (0), vI (0), vI (0), vI (0)]) (by kernel_rfl) fun b35 => ?_
    refine run 1 ?_
    refine s_st (st_freezeb (R := rmotion_stepped) (a := y34.1) 0 [5] (cells_pair (cells_pair (cells_one rfl) (cells_pair (cells_one rfl) cells_unit rfl) rfl) (cells_pair (cells_pair (cells_one rfl) (cells_pair (cells_one rfl) (cells_pair (cells_one rfl) (cells_pair (cells_one rfl) (cells_pair (cells_one rfl) (cells_pair (cells_one rfl) cells_unit rfl) rfl) rfl) rfl) rfl) rfl) (cells_pair (cells_one rfl) (cells_pair (cells_one rfl) cells_unit rfl) rfl) rfl) rfl) rfl rfl ⟨rfl, trivial⟩) ?_
    refine run 8 ?_
    refine wct ho (fun hq36 ho => ?_) fun hq36 ho => ?_
    ·cases ho; exact r_ret (lf [.tuple ((untup (gh g27 0)))] [0, 1])
    ·refine run 10 ?_
     refine s_loadbs (R := rMotionState) (a := y34.1.1) 1 (fun _ h => by cases h <;> rfl) U26 (cells_pair (cells_one rfl) (cells_pair (cells_one rfl) cells_unit rfl) rfl) (.n rfl) rfl rfl (.t rfl) rfl ?_
     obtain ⟨s37, hs37, ho⟩ := bnd ho
     refine s_st (st_cbl (K := K) 0 (goL_inv hs37) rfl rfl) ?_
     obtain ⟨y38, hy38, ho⟩ := bnd ho
     refine s_cally [0] [1] (fun _ h => by cases h) hcb hy38 rfl rfl rfl (by decide) (.n rfl) rfl rfl rfl (.t rfl) (.c (.t rfl) .n) ?_
     intro v39
     refine run 2 ?_
     refine wct ho (fun hq40 ho => ?_) fun hq40 ho => ?_
     ·cases ho; exact r_ret (lf [.tuple v39] [0, 1])
     ·refine run 4 ?_
      cases ho; exact s_nil (lf [.tuple v39] [0, 1])
  ·cases ho; exact r_exit (lf [.tuple ((untup (gh g27 0)))] [0, 1])
 ·rcases t41 with b43 | b44
  ·have ho := alt_l ho
   cases ho; exact id (retm_of [0, 1] [.tuple ((untup (gh g42 0)))] (.inl rfl) .n rfl (by decide))
  ·have ho := alt_r ho
   cases ho; exact id (retm_of [0, 1] [.tuple ((untup (gh g42 0)))] (.inr rfl) .n rfl (by decide))
theorem g_motion_mover_stopping_ok {m_0 : motion_mover} {x_1 : MotionState} {slope_2 : ((MotionState) → Option (Int))} {out : (MotionState × motion_mover × ((MotionState) → Option (Int)))} (ho : g_motion_mover_stopping m_0 x_1 slope_2 = some out) : FunB ktab 66 [.val (rPtr rmotion_mover) m_0, .val rMotionState x_1, .val (rFn ktab (MotionState) (Int) (fun x => [.val rMotionState (x)]) (fun y => [.val (rInt .i64) (y)])) slope_2] 92 [.val (rInt .i64) (out.1.1), .val (rInt .i64) (out.1.2.1)] [.val (rPtr (rPtr rmotion_mover)) (out.2.1), .val (rPtr (rFn ktab (MotionState) (Int) (fun x => [.val rMotionState (x)]) (fun y => [.val (rInt .i64) (y)]))) (out.2.2)] := by
 refine funb_of (F := Tryz.f66) (by rfl) (by rfl) (by rfl) (fun C hC => ?_)
 delta g_motion_mover_stopping at ho
 refine run 3 ?_
 refine xbo fun b1 => ?_
 refine run 1 ?_
 refine s_pure rfl (.n rfl) rfl (e := .raw .nilfunc) (fun z fr h s => ⟨_, rfl, by simp only [TE.ok]; rfl⟩) ?_
 refine run 3 ?_
 refine s_mkclo (.n rfl) rfl rfl .n (.c (.t rfl) (.c (.t rfl) (.c (.t rfl) .n))) ?_
 refine run 2 ?_
 cases ho; exact r_ret (retb_of 0 (.inr rfl) rfl rfl)
instance i67 {p_0 p_1} : FI ktab 67 (g_motion_mover_braking_1 p_0 p_1) [.val rMotionState p_0, .val (rPtr (rInt .i64)) p_1] (fun out => [.val (rInt .i64) (out)]) := ⟨fun out ho => by
 delta g_motion_mover_braking_1 at ho
 refine fn fun _ _ => ?_
 exact w ho⟩
instance i68 {m_0 x_1} : FI ktab 68 (g_motion_mover_place m_0 x_1) [.val (rPtr rmotion_mover) m_0, .val rMotionState x_1] (fun out => [.val (rInt .i64) (out)]) := ⟨fun out ho => by
 delta g_motion_mover_place at ho
 refine fn fun _ _ => ?_
 exact w ho⟩
instance i43 {m_0 x_1 slope_2} : FI ktab 43 (g_motion_mover_braking m_0 x_1 slope_2) [.val (rPtr rmotion_mover) m_0, .val rMotionState x_1, vI slope_2] (fun out => [.val (rInt .i64) (out.1), .val rBool (out.2)]) := ⟨fun out ho => by
 delta g_motion_mover_braking at ho
 refine fn fun _ _ => ?_
 refine run 10 ?_
 refine xal (zv := .agg [.int .i64 0, .int .i64 0]) (es := [vI (0), vI (0)]) (by kernel_rfl) fun b1 => ?_
 refine run 7 ?_
 refine s_mkfn (X := (MotionState)) (Y := (Int)) (fun x => [.val rMotionState (x)]) (fun y => [.val (rInt .i64) (y)]) (f := (fun x => g_motion_mover_braking_1 x slope_2)) (fun x y hf => i67.ok _ hf) rfl (.n rfl) rfl rfl .n (.c (.t rfl) .n) ?_
 obtain ⟨y2, hy2, ho⟩ := bnd ho
 refine s_callb (g_motion_mover_stopping_ok hy2) rfl (.n rfl) rfl rfl rfl .f (.c (.t rfl) (.c (.t rfl) (.c (.t rfl) .n))) ?_
 intro b3
 refine run 2 ?_
 obtain ⟨t10, ht10, ho⟩ := bnd ho
 obtain ⟨t10, t10b⟩ := t10
 refine r_rangex (σ := (Int × Int)) (τ := Unit) (X := (MotionState)) (ins := (fun x => [.val rMotionState (x)])) (altO (fun s g => [(.ptr b1 0, .box [vI (s.1), vI (s.2)])]) (fun _ _ => [])) (fun _ => none) (s0 := (x_1.1, x_1.2.1)) (r := t10) [] [1] [0] [] rfl (.t rfl) rfl rfl rfl (by decide) (fun _ => rfl) (fun yv K hcb γ => funm_gh (funm_drop (g_motion_mover_stopping_1_ok hcb ht10 b3 γ))) ?_ ?_
 ·clear ho ht10
  intro s7 g8 x4 r11 ho C
  refine run 1 ?_
  refine xal (zv := .agg [.int .i64 0, .int .i64 0]) (es := [vI (0), vI (0)]) (by kernel_rfl) fun b9 => ?_
  refine run 1 ?_
  refine s_st (st_freezeb (R := rMotionState) (a := x4) 0 [9] (cells_pair (cells_one rfl) (cells_pair (cells_one rfl) cells_unit rfl) rfl) rfl rfl ⟨rfl, trivial⟩) ?_
  refine s_nil (fun fr h s => And.intro rfl (Exists.intro _ (Exists.intro _ (And.intro s (fun C => ?_)))))
  refine run 4 ?_
  cases ho; exact s_nil (fun fr h s => And.intro rfl (Exists.intro [] (s.pick [0] trivial rfl (by decide))))
 ·clear ht10
  have hz := bnd ho
  clear ho
  obtain ⟨b12, h19, ho⟩ := hz
  have h19 := goL_inv h19
  subst h19
  intro g14
  refine st_wk (Γ' := [(0, .val (rPtr rmotion_mover) (m_0)), (1, .val rMotionState (x_1)), (2, vI (slope_2)), (4, .val (rPtr rMotionState) (x_1)), (5, .val (rPtr (rInt .i64)) (slope_2)), (6, vI (0)), (7, vB (false)), (8, .raw (.ptr b1 0)), (10, .val rMotionState (x_1)), (11, .val (rPtr rmotion_mover) (m_0)), (12, .val rMotionState (x_1)), (13, .val (rFn ktab (MotionState) (Int) (fun x => [.val rMotionState (x)]) (fun y => [.val (rInt .i64) (y)])) ((fun x => g_motion_mover_braking_1 x slope_2)))]) (L' := [(.ptr b1 0, .box [vI (b12.1), vI (b12.2)])]) [0] ⟨rfl, rfl, rfl, rfl, rfl, rfl, rfl, rfl, rfl, rfl, rfl, rfl, trivial⟩ rfl (by decide) ?_
  show ∀ fr h, St _ [(0, .val (rPtr rmotion_mover) (m_0)), (1, .val rMotionState (x_1)), (2, vI (slope_2)), (4, .val (rPtr rMotionState) (x_1)), (5, .val (rPtr (rInt .i64)) (slope_2)), (6, vI (0)), (7, vB (false)), (8, .raw (.ptr b1 0)), (10, .val rMotionState (x_1)), (11, .val (rPtr rmotion_mover) (m_0)), (12, .val rMotionState (x_1)), (13, .val (rFn ktab (MotionState) (Int) (fun x => [.val rMotionState (x)]) (fun y => [.val (rInt .i64) (y)])) ((fun x => g_motion_mover_braking_1 x slope_2)))] [(.ptr b1 0, .box [vI (b12.1), vI (b12.2)])] fr h → _
  show SRun ..
  refine run 1 ?_
  refine r_draw [1, 8] (by kernel_rfl) ?_
  refine run 1 ?_
  refine s_loadbs (R := rMotionState) (a := (b12.1, b12.2, ())) 0 (fun _ h => by cases h <;> rfl) U26 (cells_pair (cells_one rfl) (cells_pair (cells_one rfl) cells_unit rfl) rfl) (.n rfl) rfl rfl (.t rfl) rfl ?_
  exact w ho⟩
instance i17 {t_0 x_1 slope_2 state_3} : FI ktab 17 (g_motion_Braking t_0 x_1 slope_2 state_3) [.val rTrain t_0, .val rMotionState x_1, vI slope_2, vI state_3] (fun out => [.val (rInt .i64) (out.1), .val (rInt .i64) (out.2)]) := ⟨fun out ho => by
 delta g_motion_Braking at ho
 refine fn fun _ _ => ?_
 refine run 13 ?_
 refine xcl ho ?_
 intro y1 hy1 ho
 show SOps ..
 refine run 12 ?_
 refine wct ho (fun hq2 ho => ?_) fun hq2 ho => ?_
 ·exact w ho
 ·refine run 6 ?_
  obtain ⟨p3, hp3, ho⟩ := bnd ho
  refine s_st (st_someptr (n := 24) hp3 rfl) ?_
  exact w ho⟩
instance i19 {t_0 slope_1 state_2 distance_3} : FI ktab 19 (g_motion_Sight t_0 slope_1 state_2 distance_3) [.val rTrain t_0, vI slope_1, vI state_2, vI distance_3] (fun out => [.val (rInt .i64) (out.1), .val (rInt .i64) (out.2)]) := ⟨fun out ho => by
 delta g_motion_Sight at ho
 refine fn fun _ _ => ?_
 refine run 12 ?_
 refine xcl ho ?_
 intro y1 hy1 ho
 show SOps ..
 refine run 8 ?_
 obtain ⟨c4, hc4, ho⟩ := bnd ho
 refine wcx c4 [1, 3, 4, 10] (fun t => (.normal, fun _ => ([(29, vB (t))], []))) SEL ?_ fun _ => ?_
 ·exact w hc4
 ·show SRun ..
  refine wct ho (fun hq7 ho => ?_) fun hq7 ho => ?_
  ·exact w ho
  ·refine run 9 ?_
   obtain ⟨t24, ht24, ho⟩ := bnd ho
   refine wlp ht24 [1, 3, 4, 10] (fun s g => ([(12, vI (s))], [])) (altX (fun b => (.exit 0, fun g => ([], []))) (fun b => (.ret, fun g => ([(8, vI (b.1)), (9, vI (b.2))], [])))) [] SEL (pk []) NE (fun s15 g16 _ ho => ?_) fun g25 => ?_
   ·refine run 6 ?_
    refine wct ho (fun hq17 ho => ?_) fun hq17 ho => ?_
    ·refine run 12 ?_
     obtain ⟨p18, hp18, ho⟩ := bnd ho
     refine s_st (st_someptr (n := 37) hp18 rfl) ?_
     refine xcl ho ?_
     intro y19 hy19 ho
     show SOps ..
     refine run 10 ?_
     refine wbr ho (fun hb21 ho => ?_) fun hb21 ho => ?_
     ·exact w ho
     ·refine run 5 ?_
      refine r_cond (.t rfl) (fun hq => by cases hq) (fun _ => ?_)
      exact w ho
    ·cases ho; exact r_exit (lf [] [])
   ·rcases t24 with b26 | b27
    ·have ho := alt_l ho
     show SRun ..
     exact w ho
    ·have ho := alt_r ho
     cases ho; exact id (ret_of (.inr rfl) (.v rfl (.v rfl .n)) (by decide))⟩
instance i85 {x_0 low_1 high_2} : FI ktab 85 (g_track_within x_0 low_1 high_2) [vI x_0, vI low_1, vI high_2] (fun out => [.val rBool (out)]) := ⟨fun out ho => by
 delta g_track_within at ho
 refine fn fun _ _ => ?_
 refine run 5 ?_
 obtain ⟨c2, hc2, ho⟩ := bnd ho
 refine wcx c2 [] (fun t => (.normal, fun _ => ([(6, vB (t))], []))) SEL ?_ fun _ => ?_
 ·exact w hc2
 ·show SRun ..
  cases ho; exact r_ret (ret_of (.inr rfl) (.v rfl .n) (by decide))⟩
instance i114 {s_0 f_1} : FI ktab 114 (g_slices_IndexFunc_api_Node_api_Node s_0 f_1) [.val (rSlice rANode) s_0, .val (rFn ktab (ANode) (Bool) (fun x => [.val rANode (x)]) (fun y => [.val rBool (y)])) f_1] (fun out => [.val (rInt .i64) (out)]) := ⟨fun out ho => by
 delta g_slices_IndexFunc_api_Node_api_Node at ho
 refine fn fun _ _ => ?_
 refine run 12 ?_
 obtain ⟨t11, ht11, ho⟩ := bnd ho
 refine wlp ht11 [0, 1, 7] (fun s g => ([(8, vI (s))], [])) (altX (fun b => (.exit 0, fun g => ([], []))) (fun b => (.ret, fun g => ([(4, vI (b))], [])))) [] SEL (pk []) NE (fun s5 g6 _ ho => ?_) fun g12 => ?_
 ·refine run 5 ?_
  refine wct ho (fun hq7 ho => ?_) fun hq7 ho => ?_
  ·refine run 13 ?_
   obtain ⟨x8, hx8, ho⟩ := bnd ho
   refine run 2 ?_
   obtain ⟨y9, hy9, ho⟩ := bnd ho
   refine s_callv (X := (ANode)) (Y := (Bool)) (f := f_1) (x := x8) hy9 (.n rfl) rfl rfl rfl (.t rfl) (.c (.t rfl) .n) ?_
   exact w ho
  ·cases ho; exact r_exit (lf [] [])
 ·rcases t11 with b13 | b14
  ·have ho := alt_l ho
   show SRun ..
   exact w ho
  ·have ho := alt_r ho
   cases ho; exact id (ret_of (.inr rfl) (.v rfl .n) (by decide))⟩
instance i100 {s_0 f_1} : FI ktab 100 (g_slices_ContainsFunc_api_Node_api_Node s_0 f_1) [.val (rSlice rANode) s_0, .val (rFn ktab (ANode) (Bool) (fun x => [.val rANode (x)]) (fun y => [.val rBool (y)])) f_1] (fun out => [.val rBool (out)]) := ⟨fun out ho => by
 delta g_slices_ContainsFunc_api_Node_api_Node at ho
 refine fn fun _ _ => ?_
 exact w ho⟩
instance i115 {s_0} : FI ktab 115 (g_track_spot s_0) [.val rSpot s_0] (fun out => [.val rBool (out)]) := ⟨fun out ho => by
 delta g_track_spot at ho
 refine fn fun _ _ => ?_
 refine run 6 ?_
 obtain ⟨c4, hc4, ho⟩ := bnd ho
 refine wcx c4 [] (fun t => (.normal, fun _ => ([(2, vB (t))], []))) SEL ?_ fun _ => ?_
 ·exact w hc4
 ·show SRun ..
  cases ho; exact r_ret (ret_of (.inr rfl) (.v rfl .n) (by decide))⟩
instance i116 : FI ktab 116 (g_track_sizes) [] (fun out => [.val (rArr 7 (rInt .i64)) (out)]) := ⟨fun out ho => by
 delta g_track_sizes at ho
 refine fn fun _ _ => ?_
 refine run 2 ?_
 refine xal (zv := .agg [.int .i64 0, .int .i64 0, .int .i64 0, .int .i64 0, .int .i64 0, .int .i64 0, .int .i64 0]) (es := [.raw (.int .i64 0), .raw (.int .i64 0), .raw (.int .i64 0), .raw (.int .i64 0), .raw (.int .i64 0), .raw (.int .i64 0), .raw (.int .i64 0)]) (by kernel_rfl) fun b1 => ?_
 refine run 3 ?_
 refine s_builda0 (R := (rInt .i64)) (zc := [.int .i64 0, .int .i64 0, .int .i64 0, .int .i64 0, .int .i64 0, .int .i64 0, .int .i64 0]) 1 0 AR179 (by kernel_rfl) (by rfl) (fun _ j hj => (match j, hj with | 0, _ => zint)) (.n rfl) rfl rfl (.c (.i (by decide) (by decide)) (.c (.i (by decide) (by decide)) (.c (.i (by decide) (by decide)) (.c (.i (by decide) (by decide)) (.c (.i (by decide) (by decide)) (.c (.i (by decide) (by decide)) .n)))))) (by rfl) ?_
 refine s_storeab 0 AR179 rfl (by rfl) (by decide) (.n rfl) rfl rfl (.t rfl) (.t rfl) (by rfl) ?_
 refine run 1 ?_
 cases ho; exact r_ret (ret_of (.inr rfl) (.a 0 AR179 rfl rfl .n) (by decide))⟩
instance i102 {n_0} : FI ktab 102 (g_track_node n_0) [.val rANode n_0] (fun out => [.val rBool (out)]) := ⟨fun out ho => by
 delta g_track_node at ho
 refine fn fun _ _ => ?_
 refine run 7 ?_
 obtain ⟨c13, hc13, ho⟩ := bnd ho
 refine wcx c13 [1] (fun t => (.normal, fun _ => ([(26, vB (t))], []))) SEL ?_ fun _ => ?_
 ·exact w hc13
 ·show SRun ..
  refine wct ho (fun hq20 ho => ?_) fun hq20 ho => ?_
  ·exact w ho
  ·refine run 3 ?_
   obtain ⟨c22, hc22, ho⟩ := bnd ho
   refine wcx c22 [1] (fun t => (.normal, fun _ => ([(34, vB (t))], []))) SEL ?_ fun _ => ?_
   ·exact w hc22
   ·show SRun ..
    exact w ho⟩
instance i101 {n_0} : FI ktab 101 (g_track_Check_1 n_0) [.val rANode n_0] (fun out => [.val rBool (out)]) := ⟨fun out ho => by
 delta g_track_Check_1 at ho
 refine fn fun _ _ => ?_
 exact w ho⟩
instance i117 {s_0 f_1} : FI ktab 117 (g_slices_IndexFunc_api_Rail_api_Rail s_0 f_1) [.val (rSlice rRail) s_0, .val (rFn ktab (Rail) (Bool) (fun x => [.val rRail (x)]) (fun y => [.val rBool (y)])) f_1] (fun out => [.val (rInt .i64) (out)]) := ⟨fun out ho => by
 delta g_slices_IndexFunc_api_Rail_api_Rail at ho
 refine fn fun _ _ => ?_
 refine run 12 ?_
 obtain ⟨t11, ht11, ho⟩ := bnd ho
 refine wlp ht11 [0, 1, 7] (fun s g => ([(8, vI (s))], [])) (altX (fun b => (.exit 0, fun g => ([], []))) (fun b => (.ret, fun g => ([(4, vI (b))], [])))) [] SEL (pk []) NE (fun s5 g6 _ ho => ?_) fun g12 => ?_
 ·refine run 5 ?_
  refine wct ho (fun hq7 ho => ?_) fun hq7 ho => ?_
  ·refine run 13 ?_
   obtain ⟨x8, hx8, ho⟩ := bnd ho
   refine run 2 ?_
   obtain ⟨y9, hy9, ho⟩ := bnd ho
   refine s_callv (X := (Rail)) (Y := (Bool)) (f := f_1) (x := x8) hy9 (.n rfl) rfl rfl rfl (.t rfl) (.c (.t rfl) .n) ?_
   exact w ho
  ·cases ho; exact r_exit (lf [] [])
 ·rcases t11 with b13 | b14
  ·have ho := alt_l ho
   show SRun ..
   exact w ho
  ·have ho := alt_r ho
   cases ho; exact id (ret_of (.inr rfl) (.v rfl .n) (by decide))⟩
instance i103 {s_0 f_1} : FI ktab 103 (g_slices_ContainsFunc_api_Rail_api_Rail s_0 f_1) [.val (rSlice rRail) s_0, .val (rFn ktab (Rail) (Bool) (fun x => [.val rRail (x)]) (fun y => [.val rBool (y)])) f_1] (fun out => [.val rBool (out)]) := ⟨fun out ho => by
 delta g_slices_ContainsFunc_api_Rail_api_Rail at ho
 refine fn fun _ _ => ?_
 exact w ho⟩
instance i118 {n_1} : FI ktab 118 (g_slices_Grow_api_Spot_api_Spot n_1) [.raw .nilslice, vI n_1] (fun out => [.row rSpot (out)]) := ⟨fun out ho => by
 delta g_slices_Grow_api_Spot_api_Spot at ho
 refine fn fun _ _ => ?_
 refine run 2 ?_
 refine s_assign (.n rfl) rfl rfl (.nil (R := rSpot)) ?_
 refine run 7 ?_
 refine wct ho (fun hq1 ho => ?_) fun hq1 ho => ?_
 ·refine run 1 ?_
  cases ho
 ·refine run 6 ?_
  refine s_capnil (et := 123) (by kernel_rfl) rfl (.n rfl) rfl rfl (.t rfl) ?_
  refine run 1 ?_
  refine s_st (st_nilval rSpot (n := 11) rfl) ?_
  refine run 10 ?_
  refine wct ho (fun hq2 ho => ?_) fun hq2 ho => ?_
  ·refine run 3 ?_
   refine s_capnil (et := 123) (by kernel_rfl) rfl (.n rfl) rfl rfl (.t rfl) ?_
   refine s_slnil (et := 123) (n := 2) (by kernel_rfl) (by kernel_rfl) (.n rfl) rfl rfl (.t rfl) (.t rfl) ?_
   refine run 1 ?_
   obtain ⟨x3, hx3, ho⟩ := bnd ho
   refine s_appz S55 Y123 Z123 (by kernel_rfl) rfl hx3 rfl (.n rfl) rfl rfl (.t rfl) (.t rfl) rfl ?_
   intro v4
   refine run 1 ?_
   refine s_st (st_nilval rSpot (n := 23) rfl) ?_
   refine run 1 ?_
   obtain ⟨x5, hx5, ho⟩ := bnd ho
   refine s_slo0 0 S55 (slz_inv hx5) (.n rfl) rfl rfl (.t rfl) rfl (.t rfl) rfl ?_
   intro v6
   exact w ho
  ·refine run 6 ?_
   cases ho
   refine r_st (st_nilrow rSpot) ?_
   exact r_ret (ret_of (.inr rfl) (.r 0 rfl rfl .n) (by decide))⟩
instance i107 {slices_0} : FI ktab 107 (g_slices_Concat_api_Spot_api_Spot slices_0) [.val (rSlice (rSlice rSpot)) slices_0] (fun out => [.row rSpot (out)]) := ⟨fun out ho => by
 delta g_slices_Concat_api_Spot_api_Spot at ho
 refine fn fun _ _ => ?_
 refine run 2 ?_
 refine s_st (st_nilrow rSpot) ?_
 refine s_assign (.n rfl) rfl rfl .nilr ?_
 refine run 13 ?_
 obtain ⟨t9, ht9, ho⟩ := bnd ho
 refine wlp ht9 [0, 9, 10] (fun s g => ([(3, vI (s.1)), (11, vI (s.2))], [])) (fun b => (.exit 0, fun g => ([(3, vI (b))], []))) [] SEL (pk []) NE (fun s4 g5 _ ho => ?_) fun g10 => ?_
 ·refine run 5 ?_
  refine wct ho (fun hq6 ho => ?_) fun hq6 ho => ?_
  ·refine run 5 ?_
   obtain ⟨x7, hx7, ho⟩ := bnd ho
   refine run 17 ?_
   refine wct ho (fun hq8 ho => ?_) fun hq8 ho => ?_
   ·refine run 1 ?_
    cases ho
   ·exact w ho
  ·cases ho; exact r_exit (lf [] [])
 ·show SRun ..
  refine run 3 ?_
  obtain ⟨y11, hy11, ho⟩ := bnd ho
  refine s_calll (i118.ok _ hy11) (.r (flat_pair flat_int (flat_pair flat_int flat_unit)) .n) rfl (.n rfl) rfl rfl rfl .f (.c (.o .nilr) (.c (.o (.t rfl)) .n)) ?_
  intro v12
  show SOps ..
  refine run 10 ?_
  obtain ⟨t23, ht23, ho⟩ := bnd ho
  refine wlp ht23 [25, 26] (fun s g => ([(6, .raw ((gh g 0))), (27, vI (s.2))], [((gh g 0), .row rSpot (s.1))])) (fun b => (.exit 2, fun g => ([(6, .raw ((gh g 0)))], [((gh g 0), .row rSpot (b))]))) [v12] SEL (pk [0]) NE (fun s17 g18 _ ho => ?_) fun g24 => ?_
  ·refine run 5 ?_
   refine wct ho (fun hq19 ho => ?_) fun hq19 ho => ?_
   ·refine run 5 ?_
    obtain ⟨x20, hx20, ho⟩ := bnd ho
    refine run 7 ?_
    obtain ⟨x21, hx21, ho⟩ := bnd ho
    refine xap fun v22 => ?_
    refine run 5 ?_
    cases ho; exact s_nil (lf [v22] [0])
   ·cases ho; exact r_exit (lf [(gh g18 0)] [0])
  ·show SRun ..
   exact w ho⟩
instance i81 {p_0 r_1} : FI ktab 81 (g_track_line p_0 r_1) [.val rPlan p_0, .val rRail r_1] (fun out => [.row rSpot (out)]) := ⟨fun out ho => by
 delta g_track_line at ho
 refine fn fun _ _ => ?_
 refine run 4 ?_
 refine s_st (st_nilrow rSpot) ?_
 refine s_assign (.n rfl) rfl rfl .nilr ?_
 refine run 7 ?_
 obtain ⟨x5, hx5, ho⟩ := bnd ho
 refine run 10 ?_
 obtain ⟨x6, hx6, ho⟩ := bnd ho
 refine run 5 ?_
 refine xcl ho ?_
 intro y7 hy7 ho v8
 exact w ho⟩
instance i108 {n_0} : FI ktab 108 (g_track_root n_0) [vI n_0] (fun out => [.val (rInt .i64) (out)]) := ⟨fun out ho => by
 delta g_track_root at ho
 refine fn fun _ _ => ?_
 refine run 7 ?_
 refine s_cif (by kernel_rfl) (by kernel_rfl) (.n rfl) rfl rfl (.t rfl) ?_
 obtain ⟨x1, hx1, ho⟩ := bnd ho
 refine s_prim (p := sqrtP) rfl (sqrtP_eq hx1) (fun _ => raw_te) (.n rfl) rfl rfl rfl .f (prim1 (.t rfl)) ?_
 obtain ⟨x2, hx2, ho⟩ := bnd ho
 refine s_cfi (by kernel_rfl) (by kernel_rfl) hx2 (.n rfl) rfl rfl (.t rfl) ?_
 refine run 4 ?_
 obtain ⟨t7, ht7, ho⟩ := bnd ho
 refine wlp ht7 [0] (fun s g => ([(3, vI (s))], [])) (fun b => (.exit 0, fun g => ([(3, vI (b))], []))) [] SEL (pk []) NE (fun s4 g5 _ ho => ?_) fun g8 => ?_
 ·exact w ho
 ·show SRun ..
  refine run 2 ?_
  obtain ⟨t13, ht13, ho⟩ := bnd ho
  refine wlp ht13 [0] (fun s g => ([(3, vI (s))], [])) (fun b => (.exit 2, fun g => ([(3, vI (b))], []))) [] SEL (pk []) NE (fun s10 g11 _ ho => ?_) fun g14 => ?_
  ·exact w ho
  ·show SRun ..
   exact w ho⟩
instance i82 {a_0 b_1} : FI ktab 82 (g_track_span a_0 b_1) [.val rSpot a_0, .val rSpot b_1] (fun out => [.val (rInt .i64) (out)]) := ⟨fun out ho => by
 delta g_track_span at ho
 refine fn fun _ _ => ?_
 exact w ho⟩
instance i105 {p_0 p_1} : FI ktab 105 (g_track_rail p_0 p_1) [.val rPlan p_0, .val rRail p_1] (fun out => [.val rBool (out)]) := ⟨fun out ho => by
 delta g_track_rail at ho
 refine fn fun _ _ => ?_
 refine run 8 ?_
 obtain ⟨c9, hc9, ho⟩ := bnd ho
 refine wcx c9 [2, 3] (fun t => (.normal, fun _ => ([(43, vB (t))], []))) SEL ?_ fun _ => ?_
 ·exact w hc9
 ·show SRun ..
  refine wct ho (fun hq18 ho => ?_) fun hq18 ho => ?_
  ·exact w ho
  ·refine run 5 ?_
   refine xcl ho ?_
   intro y19 hy19 ho v20
   show SOps ..
   refine run 10 ?_
   obtain ⟨t71, ht71, ho⟩ := bnd ho
   refine wlp ht71 [5, 47, 48] (fun s g => ([(49, vI (s))], [(v20, .row rSpot (y19))])) (altX (fun b => (.exit 0, fun g => ([], []))) (fun b => (.ret, fun g => ([(4, vB (b))], [])))) [] SEL (pk [0]) NE (fun s45 g46 _ ho => ?_) fun g72 => ?_
   ·refine run 5 ?_
    refine wct ho (fun hq47 ho => ?_) fun hq47 ho => ?_
    ·refine run 6 ?_
     obtain ⟨x48, hx48, ho⟩ := bnd ho
     refine run 2 ?_
     refine xal (zv := .agg [.int .i64 0, .int .i64 0]) (es := [vI (0), vI (0)]) (by kernel_rfl) fun b49 => ?_
     refine run 2 ?_
     refine s_st (st_freezeb (R := rSpot) (a := x48) 0 [7] (cells_pair (cells_one rfl) (cells_pair (cells_one rfl) cells_unit rfl) rfl) rfl rfl ⟨rfl, trivial⟩) ?_
     refine run 2 ?_
     refine r_draw [11] (by kernel_rfl) ?_
     refine run 1 ?_
     refine xcl ho ?_
     intro y62 hy62 ho
     show SOps ..
     refine run 2 ?_
     refine wbr ho (fun hb63 ho => ?_) fun hb63 ho => ?_
     ·refine run 15 ?_
      refine r_cond (.t rfl) (fun _ => ?_) (fun hq => by cases hq)
      exact w ho
     ·refine run 3 ?_
      refine wbr ho (fun hb65 ho => ?_) fun hb65 ho => ?_
      ·refine run 3 ?_
       obtain ⟨x66, hx66, ho⟩ := bnd ho
       refine run 3 ?_
       refine xcl ho ?_
       intro y67 hy67 ho
       show SOps ..
       refine xcl ho ?_
       intro y68 hy68 ho
       show SOps ..
       refine run 4 ?_
       refine wct ho (fun hq69 ho => ?_) fun hq69 ho => ?_
       ·exact w ho
       ·refine run 4 ?_
        cases ho; exact s_nil (lf [] [0])
      ·refine run 12 ?_
       refine r_cond (.t rfl) (fun hq => by cases hq) (fun _ => ?_)
       refine run 4 ?_
       cases ho; exact s_nil (lf [] [0])
    ·cases ho; exact r_exit (lf [] [])
   ·rcases t71 with b73 | b74
    ·have ho := alt_l ho
     show SRun ..
     exact w ho
    ·have ho := alt_r ho
     cases ho; exact id (ret_of (.inr rfl) (.v rfl .n) (by decide))⟩
instance i104 {r_0 p_1} : FI ktab 104 (g_track_Check_2 r_0 p_1) [.val rRail r_0, .val (rPtr rPlan) p_1] (fun out => [.val rBool (out)]) := ⟨fun out ho => by
 delta g_track_Check_2 at ho
 refine fn fun _ _ => ?_
 exact w ho⟩
instance i106 {p_0 e_1} : FI ktab 106 (g_track_ending p_0 e_1) [.val rPlan p_0, .val rRailEnd e_1] (fun out => [.val (rInt .i64) (out)]) := ⟨fun out ho => by
 delta g_track_ending at ho
 refine fn fun _ _ => ?_
 exact w ho⟩
instance i80 {p_0} : FI ktab 80 (g_track_Check p_0) [.val rPlan p_0] (fun out => [.val (rInt .i64) (out)]) := ⟨fun out ho => by
 delta g_track_Check at ho
 refine fn fun _ _ => ?_
 refine run 7 ?_
 obtain ⟨c4, hc4, ho⟩ := bnd ho
 refine wcx c4 [1] (fun t => (.normal, fun _ => ([(19, vB (t))], []))) SEL ?_ fun _ => ?_
 ·exact w hc4
 ·show SRun ..
  refine wct ho (fun hq8 ho => ?_) fun hq8 ho => ?_
  ·exact w ho
  ·refine run 3 ?_
   obtain ⟨c12, hc12, ho⟩ := bnd ho
   refine wcx c12 [1] (fun t => (.normal, fun _ => ([(28, vB (t))], []))) SEL ?_ fun _ => ?_
   ·have ho := hc12
    refine run 3 ?_
    obtain ⟨y13, hy13, ho⟩ := bnd ho
    refine s_calll (i100.ok _ hy13) (.v flat_bool .n) rfl (.n rfl) rfl rfl rfl .f (.c (.o (.t rfl)) (.c (.o (.fv (opd_fn (fun x y hf => i101.ok _ hf) rfl))) .n)) ?_
    show SOps ..
    refine run 1 ?_
    refine wbr ho (fun hb14 ho => ?_) fun hb14 ho => ?_
    ·exact w ho
    ·refine run 2 ?_
     refine s_mkfn (X := (Rail)) (Y := (Bool)) (fun x => [.val rRail (x)]) (fun y => [.val rBool (y)]) (f := (fun x => g_track_Check_2 x p_0)) (fun x y hf => i104.ok _ hf) rfl (.g rfl rfl (gf0 hb14)) rfl rfl .n (.c (.t rfl) .n) ?_
     exact w ho
   ·show SRun ..
    refine wct ho (fun hq16 ho => ?_) fun hq16 ho => ?_
    ·exact w ho
    ·refine run 3 ?_
     refine s_mkmap rBool MP170 rfl (.n rfl) rfl rfl ?_
     intro b17
     refine run 11 ?_
     obtain ⟨t173, ht173, ho⟩ := bnd ho
     refine wlp ht173 [] (fun s g => ([(1, .val (rPtr rPlan) (p_0)), (3, .raw (.map b17)), (31, .val (rSlice rANode) (p_0.1)), (32, vI ((lenI p_0.1))), (33, vI (s.1))], [(.map b17, .mp rRailEnd rBool (s.2))])) (altX (fun b => (.exit 0, fun g => ([(1, .val (rPtr rPlan) (p_0)), (3, .raw (.map b17))], [(.map b17, .mp rRailEnd rBool (b))]))) (fun b => (.ret, fun g => ([(2, vI (b))], [])))) [] SEL (pk [0]) NE (fun s120 g121 _ ho => ?_) fun g174 => ?_
     ·refine run 5 ?_
      refine wct ho (fun hq122 ho => ?_) fun hq122 ho => ?_
      ·refine run 6 ?_
       obtain ⟨x123, hx123, ho⟩ := bnd ho
       refine run 2 ?_
       refine xal (zv := .agg [.int .i64 0, .int .i64 0, .int .i64 0, .nilslice, .int .i64 0]) (es := [vI (0), vI (0), vI (0), .val (rSlice rRailEnd) ([]), vI (0)]) (by kernel_rfl) fun b124 => ?_
       refine run 2 ?_
       refine s_st (st_freezeb (R := rANode) (a := x123) 0 [5] (cells_pair (cells_pair (cells_one rfl) (cells_pair (cells_one rfl) cells_unit rfl) rfl) (cells_pair (cells_one rfl) (cells_pair (cells_one rfl) (cells_pair (cells_one rfl) cells_unit rfl) rfl) rfl) rfl) rfl rfl ⟨rfl, trivial⟩) ?_
       refine run 9 ?_
       obtain ⟨t169, ht169, ho⟩ := bnd ho
       refine wlp ht169 [1, 3, 4, 31, 32, 33, 39, 40] (fun s g => ([(41, vI (s.1))], [(.map b17, .mp rRailEnd rBool (s.2))])) (altX (fun b => (.exit 2, fun g => ([], [(.map b17, .mp rRailEnd rBool (b))]))) (fun b => (.ret, fun g => ([(2, vI (b.1))], [])))) [] SEL (pk [0]) NE (fun s153 g154 _ ho => ?_) fun g170 => ?_
       ·refine run 5 ?_
        refine wct ho (fun hq155 ho => ?_) fun hq155 ho => ?_
        ·refine run 5 ?_
         obtain ⟨x156, hx156, ho⟩ := bnd ho
         refine run 2 ?_
         refine xal (zv := .agg [.int .i64 0, .bool false]) (es := [vI (0), vB (false)]) (by kernel_rfl) fun b157 => ?_
         refine run 1 ?_
         refine s_st (st_freezeb (R := rRailEnd) (a := x156) 0 [7] (cells_pair (cells_one rfl) (cells_pair (cells_one rfl) cells_unit rfl) rfl) rfl rfl ⟨rfl, trivial⟩) ?_
         refine run 10 ?_
         refine xcl ho ?_
         intro y162 hy162 ho
         show SOps ..
         refine run 2 ?_
         refine wbr ho (fun hb163 ho => ?_) fun hb163 ho => ?_
         ·refine run 12 ?_
          refine r_cond (.t rfl) (fun _ => ?_) (fun hq => by cases hq)
          exact w ho
         ·refine run 2 ?_
          refine s_look 0 rfl MP170 Z4 rfl (.g rfl rfl (gf0 hb163)) rfl rfl (.t rfl) (.t rfl) ?_
          refine run 2 ?_
          refine wbr ho (fun hb165 ho => ?_) fun hb165 ho => ?_
          ·refine run 7 ?_
           refine r_cond (.t rfl) (fun _ => ?_) (fun hq => by cases hq)
           exact w ho
          ·refine run 2 ?_
           refine xcl ho ?_
           intro y167 hy167 ho
           show SOps ..
           refine run 4 ?_
           refine wct ho (fun hq168 ho => ?_) fun hq168 ho => ?_
           ·exact w ho
           ·refine run 4 ?_
            refine s_mapset 0 MP170 (.inl rfl) rfl (.n rfl) rfl (.t rfl) (.t rfl) .b rfl ?_
            refine run 4 ?_
            cases ho; exact s_nil (lf [] [0])
        ·cases ho; exact r_exit (lf [] [0])
       ·rcases t169 with b171 | b172
        ·have ho := alt_l ho
         show SRun ..
         refine run 3 ?_
         cases ho; exact s_nil (lf [] [0])
        ·have ho := alt_r ho
         cases ho; exact id (lf [] [])
      ·cases ho; exact r_exit (lf [] [0])
     ·rcases t173 with b175 | b176
      ·have ho := alt_l ho
       show SRun ..
       refine run 4 ?_
       obtain ⟨x177, hx177, ho⟩ := bnd ho
       refine s_lenm (st := 170) (kt := 120) (et := 4) 0 rfl (by kernel_rfl) hx177 rfl rfl (.n rfl) rfl rfl (.t rfl) ?_
       exact w ho
      ·have ho := alt_r ho
       cases ho; exact id (ret_of (.inr rfl) (.v rfl .n) (by decide))⟩
end Go.Ai.TabYtcokdbcdlaofbaaGreat
