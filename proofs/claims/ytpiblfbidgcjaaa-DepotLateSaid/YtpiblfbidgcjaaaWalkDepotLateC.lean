/- Written by program: walks through functions. -/
import Derived.Test.YtpiblfbidgcjaaaM4
namespace Go.Ai.TabYtpiblfbidgcjaaa
open Go Go.Ai Go.Ai.Sx Go.Proofs
attribute [local irreducible] SOps
set_option maxRecDepth 100000
theorem g_depot_within_ok {n_0 : Int} {low_1 : Int} {high_2 : Int} {out : (Bool)} (ho : g_depot_within n_0 low_1 high_2 = some out) : Fun ktab 56 [.val (rInt .i64) n_0, .val (rInt .i64) low_1, .val (rInt .i64) high_2] [.val rBool (out)] := by
  refine fun_of (F := Try.f56) (by rfl) (by rfl) (by rfl) (fun C hC => ?_)
  delta g_depot_within at ho
  refine r_seq ?_
  refine r_region ?_
  refine s_assign (.n rfl) rfl rfl .b ?_
  refine s_nilq rfl ?_
  refine r_seq ?_
  obtain ⟨c2, hc2, ho⟩ := bnd ho
  refine r_cut (τ := (Bool)) (G := Unit) (fun t => (.normal, fun _ => ([(6, .val rBool (t))], []))) (t := c2) ?_ ?_
  · have ho := hc2
    clear hc2
    refine r_region ?_
    refine s_move (.n rfl) rfl rfl (.t rfl) ?_
    refine s_move (.n rfl) rfl rfl (.t rfl) ?_
    refine s_cmp (.n rfl) rfl rfl (.t rfl) (.t rfl) .geq ?_
    refine s_move (.n rfl) rfl rfl (.t rfl) ?_
    rcases Bool.eq_false_or_eq_true ((decide (n_0 ≥ low_1))) with hb3 | hb3
    · have ho := cnd1 ho hb3
      refine s_move (.g rfl rfl (gt1 hb3)) rfl rfl (.t rfl) ?_
      refine s_move (.g rfl rfl (gt1 hb3)) rfl rfl (.t rfl) ?_
      refine s_cmp (.g rfl rfl (gt1 hb3)) rfl rfl (.t rfl) (.t rfl) .leq ?_
      refine s_pk1 hb3 (.n rfl) rfl rfl (.t rfl) (.t rfl) ?_
      refine s_assign (.n rfl) rfl rfl (.t rfl) ?_
      cases ho
      exact s_nil (fun fr h s => And.intro rfl (Exists.intro () (s.pick [] ⟨rfl, trivial⟩ rfl (by decide))))
    · have ho := cnd0 ho hb3
      refine s_skip (.g rfl rfl (gt0 hb3)) rfl ?_
      refine s_skip (.g rfl rfl (gt0 hb3)) rfl ?_
      refine s_skip (.g rfl rfl (gt0 hb3)) rfl ?_
      refine s_pk0 hb3 (.n rfl) rfl rfl (.t rfl) .b ?_
      refine s_assign (.n rfl) rfl rfl (.t rfl) ?_
      cases ho
      exact s_nil (fun fr h s => And.intro rfl (Exists.intro () (s.pick [] ⟨rfl, trivial⟩ rfl (by decide))))
  · intro _
    show SRun _ _ _ _ _ _
    cases ho
    exact r_ret (ret_of (.inr rfl) (.v rfl .n) (by decide))
theorem g_depot_permutation_ok {l_0 : (List Int)} {out : (Bool)} (ho : g_depot_permutation l_0 = some out) : Fun ktab 36 [.val (rSlice (rInt .i64)) l_0] [.val rBool (out)] := by
  refine fun_of (F := Try.f36) (by rfl) (by rfl) (by rfl) (fun C hC => ?_)
  delta g_depot_permutation at ho
  refine r_seq ?_
  refine r_region ?_
  refine s_assign (.n rfl) rfl rfl .b ?_
  refine s_nilq rfl ?_
  refine r_seq ?_
  refine r_region ?_
  refine s_move (.n rfl) rfl rfl (.t rfl) ?_
  refine s_len S22 (.n rfl) rfl rfl rfl rfl rfl (.t rfl) ?_
  obtain ⟨x1, hx1, ho⟩ := bnd ho
  refine s_mk S84 Y4 Z4 hx1 (.n rfl) rfl rfl (.t rfl) (.t rfl) ?_
  intro v2
  refine s_assign (.n rfl) rfl rfl (.t rfl) ?_
  refine s_nilq rfl ?_
  refine r_seq ?_
  refine r_seq ?_
  refine r_region ?_
  refine s_move (.n rfl) rfl rfl (.t rfl) ?_
  refine s_len S22 (.n rfl) rfl rfl rfl rfl rfl (.t rfl) ?_
  refine s_move (.n rfl) rfl rfl (.i (by decide) (by decide)) ?_
  refine s_nilq rfl ?_
  refine r_block ?_
  obtain ⟨t39, ht39, ho⟩ := bnd ho
  refine r_loop (σ := (Int × (List Bool))) (τ := ((List Bool)) ⊕ (Bool × (List Bool))) (G := List AVal) (fun s g => ([(0, .val (rSlice (rInt .i64)) (l_0)), (3, .raw v2), (9, .val (rSlice (rInt .i64)) (l_0)), (10, .val (rInt .i64) ((lenI l_0))), (11, .val (rInt .i64) (s.1))], [(v2, .row rBool (s.2))])) (altX (fun b => (.exit 0, fun g => ([], []))) (fun b => (.ret, fun g => ([(2, .val rBool (b.1))], [])))) _ [] ht39 (fun fr h s => s.pick [0] ⟨rfl, rfl, rfl, rfl, rfl, trivial⟩ rfl (by decide)) ?_ ?_ ?_
  · intro t
    rcases t with t | t
    · exact (show (.exit 0 : AExit) ≠ .normal from fun e => by cases e)
    · exact (show (.ret : AExit) ≠ .normal from fun e => by cases e)
  · clear ho
    intro s26 g27 r40 ho
    refine r_seq ?_
    refine r_region ?_
    refine s_cmp (.n rfl) rfl rfl (.t rfl) (.t rfl) .lss ?_
    refine s_nilq rfl ?_
    refine r_seq ?_
    refine r_cond (.t rfl) (fun hq28 => ?_) (fun hq28 => ?_)
    · have ho := cnd1 ho hq28
      refine r_skipq rfl ?_
      refine r_seq ?_
      refine r_block ?_
      refine r_seq ?_
      refine r_region ?_
      obtain ⟨x29, hx29, ho⟩ := bnd ho
      refine s_idx S22 hx29 (.n rfl) rfl rfl (.t rfl) (.t rfl) ?_
      refine s_load U3 (.n rfl) rfl rfl (.t rfl) ?_
      refine s_assign (.n rfl) rfl rfl (.t rfl) ?_
      refine s_nilq rfl ?_
      refine r_seq ?_
      refine r_seq ?_
      refine r_region ?_
      refine s_move (.n rfl) rfl rfl (.t rfl) ?_
      refine s_move (.n rfl) rfl rfl (.t rfl) ?_
      refine s_len S22 (.n rfl) rfl rfl rfl rfl rfl (.t rfl) ?_
      refine s_ar (.n rfl) rfl rfl (.t rfl) (.i (by decide) (by decide)) .sub ?_
      obtain ⟨y33, hy33, ho⟩ := bnd ho
      refine s_calll (g_depot_within_ok hy33) (.v flat_bool .n) rfl (.n rfl) rfl rfl rfl .f (.c (.o (.t rfl)) (.c (.o (.i (by decide) (by decide))) (.c (.o (.t rfl)) .n))) ?_
      show SOps _ _ _ _ _ _ _ _
      refine s_not (.n rfl) rfl rfl (.t rfl) ?_
      refine s_move (.n rfl) rfl rfl (.t rfl) ?_
      rcases Bool.eq_false_or_eq_true ((!y33)) with hb34 | hb34
      · have ho := cnd1 ho hb34
        refine s_skip (.g rfl rfl (gf1 hb34)) rfl ?_
        refine s_skip (.g rfl rfl (gf1 hb34)) rfl ?_
        refine s_skip (.g rfl rfl (gf1 hb34)) rfl ?_
        refine s_skip (.g rfl rfl (gf1 hb34)) rfl ?_
        refine s_pk1 hb34 (.n rfl) rfl rfl (.t rfl) .b ?_
        refine s_nilq rfl ?_
        refine r_cond (.t rfl) (fun _ => ?_) (fun hq => by cases hq)
        refine r_seq ?_
        refine r_region ?_
        refine s_assign (.n rfl) rfl rfl .b ?_
        refine s_nilq rfl ?_
        cases ho
        exact r_ret (fun fr h s => And.intro rfl (Exists.intro [] (s.pick [] ⟨rfl, trivial⟩ rfl (by decide))))
      · have ho := cnd0 ho hb34
        refine s_move (.g rfl rfl (gf0 hb34)) rfl rfl (.t rfl) ?_
        refine s_move (.g rfl rfl (gf0 hb34)) rfl rfl (.t rfl) ?_
        obtain ⟨x36, hx36, ho⟩ := bnd ho
        refine s_idxo 0 S84 hx36 (.g rfl rfl (gf0 hb34)) rfl rfl (.t rfl) rfl (.t rfl) ?_
        refine s_loado 0 (fun _ h => by cases h <;> rfl) U4 FOk.self (idx_inv hx36).2.2.2 (.g rfl rfl (gf0 hb34)) rfl rfl (.t rfl) rfl ?_
        refine s_pk0 hb34 (.n rfl) rfl rfl (.t rfl) (.t rfl) ?_
        refine s_nilq rfl ?_
        refine r_cond (.t rfl) (fun hq37 => ?_) (fun hq37 => ?_)
        · have ho := cnd1 ho hq37
          refine r_seq ?_
          refine r_region ?_
          refine s_assign (.n rfl) rfl rfl .b ?_
          refine s_nilq rfl ?_
          cases ho
          exact r_ret (fun fr h s => And.intro rfl (Exists.intro [] (s.pick [] ⟨rfl, trivial⟩ rfl (by decide))))
        · have ho := cnd0 ho hq37
          refine r_skipq rfl ?_
          refine r_region ?_
          refine s_move (.n rfl) rfl rfl (.t rfl) ?_
          refine s_move (.n rfl) rfl rfl (.t rfl) ?_
          obtain ⟨x38, hx38, ho⟩ := bnd ho
          refine s_idxo 0 S84 hx38 (.n rfl) rfl rfl (.t rfl) rfl (.t rfl) ?_
          refine s_storeo 0 U4 FOk.self (idx_inv hx38).2.2.2 (.n rfl) rfl rfl (.t rfl) .b rfl rfl ?_
          refine s_nilq rfl ?_
          refine r_region ?_
          refine s_ar (.n rfl) rfl rfl (.t rfl) (.i (by decide) (by decide)) .add ?_
          refine s_move (.n rfl) rfl rfl (.t rfl) ?_
          cases ho
          exact s_nil (fun fr h s => And.intro rfl (Exists.intro [] (s.pick [0] ⟨rfl, rfl, rfl, rfl, rfl, trivial⟩ rfl (by decide))))
    · have ho := cnd0 ho hq28
      cases ho
      exact r_exit (fun fr h s => And.intro rfl (Exists.intro [] (s.pick [] trivial rfl (by decide))))
  · clear ht39
    rcases t39 with b41 | b42
    · have ho := alt_l ho
      intro g43
      show ∀ fr h, St _ [] [] fr h → _
      show SRun _ _ _ _ _ _
      refine r_seq ?_
      refine r_region ?_
      refine s_assign (.n rfl) rfl rfl .b ?_
      refine s_nilq rfl ?_
      cases ho
      exact r_ret (ret_of (.inr rfl) (.v rfl .n) (by decide))
    · have ho := alt_r ho
      intro g44
      show ∀ fr h, St _ [(2, .val rBool (b42.1))] [] fr h → _
      cases ho
      exact id (ret_of (.inr rfl) (.v rfl .n) (by decide))
theorem g_slices_Clone_int_int_ok {s_0 : (List Int)} {out : (List Int)} (ho : g_slices_Clone_int_int s_0 = some out) : Fun ktab 49 [.val (rSlice (rInt .i64)) s_0] [.row (rInt .i64) out] := by
  refine fun_of (F := Try.f49) (by rfl) (by rfl) (by rfl) (fun C hC => ?_)
  delta g_slices_Clone_int_int at ho
  refine r_seq ?_
  refine r_region ?_
  refine s_st (st_nilrow (rInt .i64)) ?_
  refine s_assign (.n rfl) rfl rfl .nilr ?_
  refine s_nilq rfl ?_
  refine r_seq ?_
  refine r_seq ?_
  refine r_region ?_
  refine s_move (.n rfl) rfl rfl (.t rfl) ?_
  refine s_isnil S22 (.n rfl) rfl rfl (.t rfl) (fun he => ?_) ?_
  · subst he
    have e : out = [] := by simp [appO] at ho; first | exact ho | exact ho.symm
    subst e
    refine s_nilq rfl ?_
    refine r_cond (.t rfl) (fun _ => ?_) (fun hq => by cases hq)
    refine r_seq ?_
    refine r_region ?_
    refine s_st (st_nilrow (rInt .i64)) ?_
    refine s_assign (.n rfl) rfl rfl .nilr ?_
    refine s_nilq rfl ?_
    exact r_ret (ret_of (.inr rfl) (.r 0 rfl rfl .n) (by decide))
  · refine s_nilq rfl ?_
    refine r_cond (.t rfl) (fun hq => by cases hq) (fun _ => ?_)
    refine r_skipq rfl ?_
    refine r_seq ?_
    refine r_region ?_
    refine s_bso (R := (rInt .i64)) S22 Y3 (.n rfl) rfl rfl (Elts.n (R := (rInt .i64))) rfl (by decide) ?_
    intro v1
    refine s_move (.n rfl) rfl rfl (.t rfl) ?_
    refine s_app 0 S22 Y3 ho (.n rfl) rfl rfl rfl rfl rfl (.t rfl) rfl (.t rfl) rfl ?_
    intro v2
    refine s_assign (.n rfl) rfl rfl (.t rfl) ?_
    refine s_nilq rfl ?_
    exact r_ret (ret_of (.inr rfl) (.r 0 rfl rfl .n) (by decide))
theorem g_slices_Index_int_int_ok {s_0 : (List Int)} {v_1 : Int} {out : (Int)} (ho : g_slices_Index_int_int s_0 v_1 = some out) : Fun ktab 72 [.val (rSlice (rInt .i64)) s_0, .val (rInt .i64) v_1] [.val (rInt .i64) (out)] := by
  refine fun_of (F := Try.f72) (by rfl) (by rfl) (by rfl) (fun C hC => ?_)
  delta g_slices_Index_int_int at ho
  refine r_seq ?_
  refine r_region ?_
  refine s_assign (.n rfl) rfl rfl (.i (by decide) (by decide)) ?_
  refine s_nilq rfl ?_
  refine r_seq ?_
  refine r_seq ?_
  refine r_region ?_
  refine s_move (.n rfl) rfl rfl (.t rfl) ?_
  refine s_len S22 (.n rfl) rfl rfl rfl rfl rfl (.t rfl) ?_
  refine s_move (.n rfl) rfl rfl (.i (by decide) (by decide)) ?_
  refine s_nilq rfl ?_
  refine r_block ?_
  obtain ⟨t9, ht9, ho⟩ := bnd ho
  refine r_loop (σ := (Int)) (τ := Unit ⊕ (Int)) (G := List AVal) (fun s g => ([(0, .val (rSlice (rInt .i64)) (s_0)), (1, .val (rInt .i64) (v_1)), (7, .val (rInt .i64) ((lenI s_0))), (8, .val (rInt .i64) (s))], [])) (altX (fun b => (.exit 0, fun g => ([], []))) (fun b => (.ret, fun g => ([(4, .val (rInt .i64) (b))], [])))) _ [] ht9 (fun fr h s => s.pick [] ⟨rfl, rfl, rfl, rfl, trivial⟩ rfl (by decide)) ?_ ?_ ?_
  · intro t
    rcases t with t | t
    · exact (show (.exit 0 : AExit) ≠ .normal from fun e => by cases e)
    · exact (show (.ret : AExit) ≠ .normal from fun e => by cases e)
  · clear ho
    intro s4 g5 r10 ho
    refine r_seq ?_
    refine r_region ?_
    refine s_cmp (.n rfl) rfl rfl (.t rfl) (.t rfl) .lss ?_
    refine s_nilq rfl ?_
    refine r_seq ?_
    refine r_cond (.t rfl) (fun hq6 => ?_) (fun hq6 => ?_)
    · have ho := cnd1 ho hq6
      refine r_skipq rfl ?_
      refine r_seq ?_
      refine r_block ?_
      refine r_seq ?_
      refine r_region ?_
      refine s_move (.n rfl) rfl rfl (.t rfl) ?_
      refine s_assign (.n rfl) rfl rfl (.t rfl) ?_
      refine s_nilq rfl ?_
      refine r_seq ?_
      refine r_region ?_
      refine s_move (.n rfl) rfl rfl (.t rfl) ?_
      refine s_move (.n rfl) rfl rfl (.t rfl) ?_
      refine s_move (.n rfl) rfl rfl (.t rfl) ?_
      obtain ⟨x7, hx7, ho⟩ := bnd ho
      refine s_idx S22 hx7 (.n rfl) rfl rfl (.t rfl) (.t rfl) ?_
      refine s_load U3 (.n rfl) rfl rfl (.t rfl) ?_
      refine s_cmp (.n rfl) rfl rfl (.t rfl) (.t rfl) .eql ?_
      refine s_nilq rfl ?_
      refine r_cond (.t rfl) (fun hq8 => ?_) (fun hq8 => ?_)
      · have ho := cnd1 ho hq8
        refine r_seq ?_
        refine r_region ?_
        refine s_move (.n rfl) rfl rfl (.t rfl) ?_
        refine s_assign (.n rfl) rfl rfl (.t rfl) ?_
        refine s_nilq rfl ?_
        cases ho
        exact r_ret (fun fr h s => And.intro rfl (Exists.intro [] (s.pick [] ⟨rfl, trivial⟩ rfl (by decide))))
      · have ho := cnd0 ho hq8
        refine r_skipq rfl ?_
        refine r_region ?_
        refine s_ar (.n rfl) rfl rfl (.t rfl) (.i (by decide) (by decide)) .add ?_
        refine s_move (.n rfl) rfl rfl (.t rfl) ?_
        cases ho
        exact s_nil (fun fr h s => And.intro rfl (Exists.intro [] (s.pick [] ⟨rfl, rfl, rfl, rfl, trivial⟩ rfl (by decide))))
    · have ho := cnd0 ho hq6
      cases ho
      exact r_exit (fun fr h s => And.intro rfl (Exists.intro [] (s.pick [] trivial rfl (by decide))))
  · clear ht9
    rcases t9 with b11 | b12
    · have ho := alt_l ho
      intro g13
      show ∀ fr h, St _ [] [] fr h → _
      show SRun _ _ _ _ _ _
      refine r_seq ?_
      refine r_region ?_
      refine s_assign (.n rfl) rfl rfl (.i (by decide) (by decide)) ?_
      refine s_nilq rfl ?_
      cases ho
      exact r_ret (ret_of (.inr rfl) (.v rfl .n) (by decide))
    · have ho := alt_r ho
      intro g14
      show ∀ fr h, St _ [(4, .val (rInt .i64) (b12))] [] fr h → _
      cases ho
      exact id (ret_of (.inr rfl) (.v rfl .n) (by decide))
theorem g_slices_Contains_int_int_ok {s_0 : (List Int)} {v_1 : Int} {out : (Bool)} (ho : g_slices_Contains_int_int s_0 v_1 = some out) : Fun ktab 48 [.val (rSlice (rInt .i64)) s_0, .val (rInt .i64) v_1] [.val rBool (out)] := by
  refine fun_of (F := Try.f48) (by rfl) (by rfl) (by rfl) (fun C hC => ?_)
  delta g_slices_Contains_int_int at ho
  refine r_seq ?_
  refine r_region ?_
  refine s_assign (.n rfl) rfl rfl .b ?_
  refine s_nilq rfl ?_
  refine r_seq ?_
  refine r_region ?_
  refine s_move (.n rfl) rfl rfl (.t rfl) ?_
  refine s_move (.n rfl) rfl rfl (.t rfl) ?_
  obtain ⟨y1, hy1, ho⟩ := bnd ho
  refine s_calll (g_slices_Index_int_int_ok hy1) (.v flat_int .n) rfl (.n rfl) rfl rfl rfl .f (.c (.o (.t rfl)) (.c (.o (.t rfl)) .n)) ?_
  show SOps _ _ _ _ _ _ _ _
  refine s_cmp (.n rfl) rfl rfl (.t rfl) (.i (by decide) (by decide)) .geq ?_
  refine s_assign (.n rfl) rfl rfl (.t rfl) ?_
  refine s_nilq rfl ?_
  cases ho
  exact r_ret (ret_of (.inr rfl) (.v rfl .n) (by decide))
theorem g_slices_IndexFunc_api_WashJob_api_WashJob_ok {s_0 : (List WashJob)} {f_1 : ((WashJob) → Option (Bool))} {out : (Int)} (ho : g_slices_IndexFunc_api_WashJob_api_WashJob s_0 f_1 = some out) : Fun ktab 81 [.val (rSlice rWashJob) s_0, .val (rFn ktab (WashJob) (Bool) (fun x => [.val rWashJob (x)]) (fun y => [.val rBool (y)])) f_1] [.val (rInt .i64) (out)] := by
  refine fun_of (F := Try.f81) (by rfl) (by rfl) (by rfl) (fun C hC => ?_)
  delta g_slices_IndexFunc_api_WashJob_api_WashJob at ho
  refine r_seq ?_
  refine r_region ?_
  refine s_assign (.n rfl) rfl rfl (.i (by decide) (by decide)) ?_
  refine s_nilq rfl ?_
  refine r_seq ?_
  refine r_seq ?_
  refine r_region ?_
  refine s_move (.n rfl) rfl rfl (.t rfl) ?_
  refine s_len S49 (.n rfl) rfl rfl rfl rfl rfl (.t rfl) ?_
  refine s_move (.n rfl) rfl rfl (.i (by decide) (by decide)) ?_
  refine s_nilq rfl ?_
  refine r_block ?_
  obtain ⟨t11, ht11, ho⟩ := bnd ho
  refine r_loop (σ := (Int)) (τ := Unit ⊕ (Int)) (G := List AVal) (fun s g => ([(0, .val (rSlice rWashJob) (s_0)), (1, .val (rFn ktab (WashJob) (Bool) (fun x => [.val rWashJob (x)]) (fun y => [.val rBool (y)])) (f_1)), (7, .val (rInt .i64) ((lenI s_0))), (8, .val (rInt .i64) (s))], [])) (altX (fun b => (.exit 0, fun g => ([], []))) (fun b => (.ret, fun g => ([(4, .val (rInt .i64) (b))], [])))) _ [] ht11 (fun fr h s => s.pick [] ⟨rfl, rfl, rfl, rfl, trivial⟩ rfl (by decide)) ?_ ?_ ?_
  · intro t
    rcases t with t | t
    · exact (show (.exit 0 : AExit) ≠ .normal from fun e => by cases e)
    · exact (show (.ret : AExit) ≠ .normal from fun e => by cases e)
  · clear ho
    intro s5 g6 r12 ho
    refine r_seq ?_
    refine r_region ?_
    refine s_cmp (.n rfl) rfl rfl (.t rfl) (.t rfl) .lss ?_
    refine s_nilq rfl ?_
    refine r_seq ?_
    refine r_cond (.t rfl) (fun hq7 => ?_) (fun hq7 => ?_)
    · have ho := cnd1 ho hq7
      refine r_skipq rfl ?_
      refine r_seq ?_
      refine r_block ?_
      refine r_seq ?_
      refine r_region ?_
      refine s_move (.n rfl) rfl rfl (.t rfl) ?_
      refine s_assign (.n rfl) rfl rfl (.t rfl) ?_
      refine s_nilq rfl ?_
      refine r_seq ?_
      refine r_region ?_
      refine s_move (.n rfl) rfl rfl (.t rfl) ?_
      refine s_move (.n rfl) rfl rfl (.t rfl) ?_
      refine s_move (.n rfl) rfl rfl (.t rfl) ?_
      obtain ⟨x8, hx8, ho⟩ := bnd ho
      refine s_idx S49 hx8 (.n rfl) rfl rfl (.t rfl) (.t rfl) ?_
      refine s_load U76 (.n rfl) rfl rfl (.t rfl) ?_
      obtain ⟨y9, hy9, ho⟩ := bnd ho
      refine s_callv hy9 (.n rfl) rfl rfl rfl (.t rfl) (.c (.t rfl) .n) ?_
      show SOps _ _ _ _ _ _ _ _
      refine s_nilq rfl ?_
      refine r_cond (.t rfl) (fun hq10 => ?_) (fun hq10 => ?_)
      · have ho := cnd1 ho hq10
        refine r_seq ?_
        refine r_region ?_
        refine s_move (.n rfl) rfl rfl (.t rfl) ?_
        refine s_assign (.n rfl) rfl rfl (.t rfl) ?_
        refine s_nilq rfl ?_
        cases ho
        exact r_ret (fun fr h s => And.intro rfl (Exists.intro [] (s.pick [] ⟨rfl, trivial⟩ rfl (by decide))))
      · have ho := cnd0 ho hq10
        refine r_skipq rfl ?_
        refine r_region ?_
        refine s_ar (.n rfl) rfl rfl (.t rfl) (.i (by decide) (by decide)) .add ?_
        refine s_move (.n rfl) rfl rfl (.t rfl) ?_
        cases ho
        exact s_nil (fun fr h s => And.intro rfl (Exists.intro [] (s.pick [] ⟨rfl, rfl, rfl, rfl, trivial⟩ rfl (by decide))))
    · have ho := cnd0 ho hq7
      cases ho
      exact r_exit (fun fr h s => And.intro rfl (Exists.intro [] (s.pick [] trivial rfl (by decide))))
  · clear ht11
    rcases t11 with b13 | b14
    · have ho := alt_l ho
      intro g15
      show ∀ fr h, St _ [] [] fr h → _
      show SRun _ _ _ _ _ _
      refine r_seq ?_
      refine r_region ?_
      refine s_assign (.n rfl) rfl rfl (.i (by decide) (by decide)) ?_
      refine s_nilq rfl ?_
      cases ho
      exact r_ret (ret_of (.inr rfl) (.v rfl .n) (by decide))
    · have ho := alt_r ho
      intro g16
      show ∀ fr h, St _ [(4, .val (rInt .i64) (b14))] [] fr h → _
      cases ho
      exact id (ret_of (.inr rfl) (.v rfl .n) (by decide))
theorem g_slices_ContainsFunc_api_WashJob_api_WashJob_ok {s_0 : (List WashJob)} {f_1 : ((WashJob) → Option (Bool))} {out : (Bool)} (ho : g_slices_ContainsFunc_api_WashJob_api_WashJob s_0 f_1 = some out) : Fun ktab 74 [.val (rSlice rWashJob) s_0, .val (rFn ktab (WashJob) (Bool) (fun x => [.val rWashJob (x)]) (fun y => [.val rBool (y)])) f_1] [.val rBool (out)] := by
  refine fun_of (F := Try.f74) (by rfl) (by rfl) (by rfl) (fun C hC => ?_)
  delta g_slices_ContainsFunc_api_WashJob_api_WashJob at ho
  refine r_seq ?_
  refine r_region ?_
  refine s_assign (.n rfl) rfl rfl .b ?_
  refine s_nilq rfl ?_
  refine r_seq ?_
  refine r_region ?_
  refine s_move (.n rfl) rfl rfl (.t rfl) ?_
  refine s_move (.n rfl) rfl rfl (.t rfl) ?_
  obtain ⟨y1, hy1, ho⟩ := bnd ho
  refine s_calll (g_slices_IndexFunc_api_WashJob_api_WashJob_ok hy1) (.v flat_int .n) rfl (.n rfl) rfl rfl rfl .f (.c (.o (.t rfl)) (.c (.o (.t rfl)) .n)) ?_
  show SOps _ _ _ _ _ _ _ _
  refine s_cmp (.n rfl) rfl rfl (.t rfl) (.i (by decide) (by decide)) .geq ?_
  refine s_assign (.n rfl) rfl rfl (.t rfl) ?_
  refine s_nilq rfl ?_
  cases ho
  exact r_ret (ret_of (.inr rfl) (.v rfl .n) (by decide))
theorem g_depot_jobs_1_ok {j_0 : WashJob} {out : (Bool)} (ho : g_depot_jobs_1 j_0 = some out) : Fun ktab 75 [.val rWashJob j_0] [.val rBool (out)] := by
  refine fun_of (F := Try.f75) (by rfl) (by rfl) (by rfl) (fun C hC => ?_)
  delta g_depot_jobs_1 at ho
  refine r_seq ?_
  refine r_region ?_
  refine s_box (.n rfl) rfl rfl (.t rfl) ?_
  refine s_assign (.n rfl) rfl rfl .b ?_
  refine s_nilq rfl ?_
  refine r_seq ?_
  obtain ⟨c5, hc5, ho⟩ := bnd ho
  refine r_cut (τ := (Bool)) (G := Unit) (fun t => (.normal, fun _ => ([(2, .val rBool (t))], []))) (t := c5) ?_ ?_
  · have ho := hc5
    clear hc5
    refine r_region ?_
    refine s_fa F76_0 fk_WashJob_0 (by decide) (.n rfl) rfl rfl (.t rfl) ?_
    refine s_load U3 (.n rfl) rfl rfl (.t rfl) ?_
    refine s_fa F76_1 fk_WashJob_1 (by decide) (.n rfl) rfl rfl (.t rfl) ?_
    refine s_load U3 (.n rfl) rfl rfl (.t rfl) ?_
    obtain ⟨y6, hy6, ho⟩ := bnd ho
    refine s_calll (g_depot_within_ok hy6) (.v flat_bool .n) rfl (.n rfl) rfl rfl rfl .f (.c (.o (.t rfl)) (.c (.o (.i (by decide) (by decide))) (.c (.o (.t rfl)) .n))) ?_
    show SOps _ _ _ _ _ _ _ _
    refine s_not (.n rfl) rfl rfl (.t rfl) ?_
    refine s_move (.n rfl) rfl rfl (.t rfl) ?_
    rcases Bool.eq_false_or_eq_true ((!y6)) with hb7 | hb7
    · have ho := cnd1 ho hb7
      refine s_skip (.g rfl rfl (gf1 hb7)) rfl ?_
      refine s_skip (.g rfl rfl (gf1 hb7)) rfl ?_
      refine s_skip (.g rfl rfl (gf1 hb7)) rfl ?_
      refine s_pk1 hb7 (.n rfl) rfl rfl (.t rfl) .b ?_
      refine s_move (.n rfl) rfl rfl (.t rfl) ?_
      refine s_skip (.g rfl rfl rfl) rfl ?_
      refine s_skip (.g rfl rfl rfl) rfl ?_
      refine s_skip (.g rfl rfl rfl) rfl ?_
      refine s_skip (.g rfl rfl rfl) rfl ?_
      refine s_pick1 (.n rfl) rfl rfl (.t rfl) .b ?_
      refine s_assign (.n rfl) rfl rfl (.t rfl) ?_
      cases ho
      exact s_nil (fun fr h s => And.intro rfl (Exists.intro () (s.pick [] ⟨rfl, trivial⟩ rfl (by decide))))
    · have ho := cnd0 ho hb7
      refine s_fa F76_1 fk_WashJob_1 (by decide) (.g rfl rfl (gf0 hb7)) rfl rfl (.t rfl) ?_
      refine s_load U3 (.g rfl rfl (gf0 hb7)) rfl rfl (.t rfl) ?_
      refine s_cmp (.g rfl rfl (gf0 hb7)) rfl rfl (.t rfl) (.i (by decide) (by decide)) .gtr ?_
      refine s_pk0 hb7 (.n rfl) rfl rfl (.t rfl) (.t rfl) ?_
      refine s_move (.n rfl) rfl rfl (.t rfl) ?_
      rcases Bool.eq_false_or_eq_true ((decide (j_0.2.1 > 200000))) with hb8 | hb8
      · have ho := cnd1 ho hb8
        refine s_skip (.g rfl rfl (gf1 hb8)) rfl ?_
        refine s_skip (.g rfl rfl (gf1 hb8)) rfl ?_
        refine s_skip (.g rfl rfl (gf1 hb8)) rfl ?_
        refine s_skip (.g rfl rfl (gf1 hb8)) rfl ?_
        refine s_pk1 hb8 (.n rfl) rfl rfl (.t rfl) .b ?_
        refine s_assign (.n rfl) rfl rfl (.t rfl) ?_
        cases ho
        exact s_nil (fun fr h s => And.intro rfl (Exists.intro () (s.pick [] ⟨rfl, trivial⟩ rfl (by decide))))
      · have ho := cnd0 ho hb8
        refine s_fa F76_2 fk_WashJob_2 (by decide) (.g rfl rfl (gf0 hb8)) rfl rfl (.t rfl) ?_
        refine s_load U3 (.g rfl rfl (gf0 hb8)) rfl rfl (.t rfl) ?_
        obtain ⟨y9, hy9, ho⟩ := bnd ho
        refine s_calll (g_depot_within_ok hy9) (.v flat_bool .n) rfl (.g rfl rfl (gf0 hb8)) rfl rfl rfl .f (.c (.o (.t rfl)) (.c (.o (.i (by decide) (by decide))) (.c (.o (.i (by decide) (by decide))) .n))) ?_
        show SOps _ _ _ _ _ _ _ _
        refine s_not (.g rfl rfl (gf0 hb8)) rfl rfl (.t rfl) ?_
        refine s_pk0 hb8 (.n rfl) rfl rfl (.t rfl) (.t rfl) ?_
        refine s_assign (.n rfl) rfl rfl (.t rfl) ?_
        cases ho
        exact s_nil (fun fr h s => And.intro rfl (Exists.intro () (s.pick [] ⟨rfl, trivial⟩ rfl (by decide))))
  · intro _
    show SRun _ _ _ _ _ _
    cases ho
    exact r_ret (ret_of (.inr rfl) (.v rfl .n) (by decide))
theorem g_depot_jobs_ok {l_0 : (List WashJob)} {out : (Bool)} (ho : g_depot_jobs l_0 = some out) : Fun ktab 51 [.val (rSlice rWashJob) l_0] [.val rBool (out)] := by
  refine fun_of (F := Try.f51) (by rfl) (by rfl) (by rfl) (fun C hC => ?_)
  delta g_depot_jobs at ho
  refine r_seq ?_
  refine r_region ?_
  refine s_assign (.n rfl) rfl rfl .b ?_
  refine s_nilq rfl ?_
  refine r_seq ?_
  obtain ⟨c3, hc3, ho⟩ := bnd ho
  refine r_cut (τ := (Bool)) (G := Unit) (fun t => (.normal, fun _ => ([(2, .val rBool (t))], []))) (t := c3) ?_ ?_
  · have ho := hc3
    clear hc3
    refine r_region ?_
    refine s_move (.n rfl) rfl rfl (.t rfl) ?_
    refine s_len S49 (.n rfl) rfl rfl rfl rfl rfl (.t rfl) ?_
    refine s_cmp (.n rfl) rfl rfl (.t rfl) (.i (by decide) (by decide)) .leq ?_
    refine s_move (.n rfl) rfl rfl (.t rfl) ?_
    rcases Bool.eq_false_or_eq_true ((decide ((lenI l_0) ≤ 8))) with hb4 | hb4
    · have ho := cnd1 ho hb4
      refine s_move (.g rfl rfl (gt1 hb4)) rfl rfl (.t rfl) ?_
      obtain ⟨y5, hy5, ho⟩ := bnd ho
      refine s_calll (g_slices_ContainsFunc_api_WashJob_api_WashJob_ok hy5) (.v flat_bool .n) rfl (.g rfl rfl (gt1 hb4)) rfl rfl rfl .f (.c (.o (.t rfl)) (.c (.o (.fv (opd_fn (fun x y hf => g_depot_jobs_1_ok hf) rfl))) .n)) ?_
      show SOps _ _ _ _ _ _ _ _
      refine s_not (.g rfl rfl (gt1 hb4)) rfl rfl (.t rfl) ?_
      refine s_pk1 hb4 (.n rfl) rfl rfl (.t rfl) (.t rfl) ?_
      refine s_assign (.n rfl) rfl rfl (.t rfl) ?_
      cases ho
      exact s_nil (fun fr h s => And.intro rfl (Exists.intro () (s.pick [] ⟨rfl, trivial⟩ rfl (by decide))))
    · have ho := cnd0 ho hb4
      refine s_skip (.g rfl rfl (gt0 hb4)) rfl ?_
      refine s_skip (.g rfl rfl (gt0 hb4)) rfl ?_
      refine s_skip (.g rfl rfl (gt0 hb4)) rfl ?_
      refine s_pk0 hb4 (.n rfl) rfl rfl (.t rfl) .b ?_
      refine s_assign (.n rfl) rfl rfl (.t rfl) ?_
      cases ho
      exact s_nil (fun fr h s => And.intro rfl (Exists.intro () (s.pick [] ⟨rfl, trivial⟩ rfl (by decide))))
  · intro _
    show SRun _ _ _ _ _ _
    cases ho
    exact r_ret (ret_of (.inr rfl) (.v rfl .n) (by decide))
theorem g_depot_orders_1_1_body_ok {σ τ : Type} {step : σ → ((List Int)) → Option (σ ⊕ τ)} {rec : σ → (List Int) → Int → Option ((Bool) × (σ ⊕ τ))} {yv : AVal} {K : σ ⊕ τ → List AVal → Sx.Obj} (hcb : CbAt ktab yv (fun x => [.val (rSlice (rInt .i64)) (x)]) step K) (hrec : ∀ {s_ : σ} {order_0 : (List Int)} {p_1 : Int} {out : ((Bool) × (σ ⊕ τ))}, rec s_ order_0 p_1 = some out → ∀ (γ0 : List AVal), FunM ktab 77 [.val (rSlice (rInt .i64)) order_0, .val (rPtr (rInt .i64)) p_1, .val (rPtr rRaw) yv, .val (rSelfP 77 [.val (rPtr (rInt .i64)) (p_1), .val (rPtr rRaw) (yv)]) ()] [(yv, K (.inl s_) γ0)] [.val rBool (out.1)] (fun γ => [(yv, K (out.2) (untup (gh γ 0)))])) {s_ : σ} {order_0 : (List Int)} {p_1 : Int} {out : ((Bool) × (σ ⊕ τ))} (ho : g_depot_orders_1_1_body step rec s_ order_0 p_1 = some out) (γ0 : List AVal) : FunM ktab 77 [.val (rSlice (rInt .i64)) order_0, .val (rPtr (rInt .i64)) p_1, .val (rPtr rRaw) yv, .val (rSelfP 77 [.val (rPtr (rInt .i64)) (p_1), .val (rPtr rRaw) (yv)]) ()] [(yv, K (.inl s_) γ0)] [.val rBool (out.1)] (fun γ => [(yv, K (out.2) (untup (gh γ 0)))]) := by
  refine funm_of (F := Try.f77) (by rfl) (by rfl) (by rfl) (fun C => ?_)
  delta g_depot_orders_1_1_body at ho
  refine r_seq ?_
  refine r_region ?_
  refine s_assign (.n rfl) rfl rfl .b ?_
  refine s_nilq rfl ?_
  refine r_seq ?_
  refine r_seq ?_
  refine r_region ?_
  refine s_move (.n rfl) rfl rfl (.t rfl) ?_
  refine s_len S22 (.n rfl) rfl rfl rfl rfl rfl (.t rfl) ?_
  refine s_load U3 (.n rfl) rfl rfl (.t rfl) ?_
  refine s_cmp (.n rfl) rfl rfl (.t rfl) (.t rfl) .eql ?_
  refine s_nilq rfl ?_
  refine r_cond (.t rfl) (fun hq1 => ?_) (fun hq1 => ?_)
  · have ho := cnd1 ho hq1
    refine r_seq ?_
    refine r_region ?_
    refine s_load UR27 (.n rfl) rfl rfl (.t rfl) ?_
    refine s_st (st_unraw (n := 11) rfl) ?_
    refine s_move (.n rfl) rfl rfl (.t rfl) ?_
    obtain ⟨y2, hy2, ho⟩ := bnd ho
    refine s_cally [0] [] (fun _ h => by cases h) hcb hy2 rfl rfl rfl (by decide) (.n rfl) rfl rfl rfl (.t rfl) (.c (.t rfl) .n) ?_
    intro v3
    refine s_assign (.n rfl) rfl rfl (.t rfl) ?_
    refine s_nilq rfl ?_
    cases ho
    exact r_ret (retm_of [0] [.tuple v3] (.inr rfl) (.v rfl .n) rfl (by decide))
  · have ho := cnd0 ho hq1
    refine r_skipq rfl ?_
    refine r_seq ?_
    refine r_seq ?_
    refine r_region ?_
    refine s_load U3 (.n rfl) rfl rfl (.t rfl) ?_
    refine s_move (.n rfl) rfl rfl (.i (by decide) (by decide)) ?_
    refine s_nilq rfl ?_
    refine r_block ?_
    obtain ⟨t73, ht73, ho⟩ := bnd ho
    refine r_loop (σ := (Int × (σ ⊕ τ))) (τ := ((σ ⊕ τ)) ⊕ ((Bool × (σ ⊕ τ)))) (G := List AVal) (fun s g => ([(0, .val (rSlice (rInt .i64)) (order_0)), (3, .val (rSelfP 77 [.val (rPtr (rInt .i64)) (p_1), .val (rPtr rRaw) (yv)]) ()), (14, .val (rInt .i64) (p_1)), (15, .val (rInt .i64) (s.1))], [(yv, K s.2 ((untup (gh g 0))))])) (altX (fun b => (.exit 0, fun g => ([], [(yv, K b ((untup (gh g 0))))]))) (fun b => (.ret, fun g => ([(5, .val rBool (b.1))], [(yv, K b.2 ((untup (gh g 0))))])))) _ [.tuple γ0] ht73 (fun fr h s => s.pick [0] ⟨rfl, rfl, rfl, rfl, trivial⟩ rfl (by decide)) ?_ ?_ ?_
    · intro t
      rcases t with t | t
      · exact (show (.exit 0 : AExit) ≠ .normal from fun e => by cases e)
      · exact (show (.ret : AExit) ≠ .normal from fun e => by cases e)
    · clear ho
      intro s48 g49 r74 ho
      refine r_seq ?_
      refine r_region ?_
      refine s_cmp (.n rfl) rfl rfl (.t rfl) (.t rfl) .lss ?_
      refine s_nilq rfl ?_
      refine r_seq ?_
      refine r_cond (.t rfl) (fun hq50 => ?_) (fun hq50 => ?_)
      · have ho := cnd1 ho hq50
        refine r_skipq rfl ?_
        refine r_seq ?_
        refine r_block ?_
        refine r_seq ?_
        refine r_region ?_
        refine s_move (.n rfl) rfl rfl (.t rfl) ?_
        refine s_assign (.n rfl) rfl rfl (.t rfl) ?_
        refine s_nilq rfl ?_
        refine r_seq ?_
        refine r_draw [] (by kernel_rfl) ?_
        refine s_move (.n rfl) rfl rfl (.t rfl) ?_
        refine s_move (.n rfl) rfl rfl (.t rfl) ?_
        obtain ⟨y61, hy61, ho⟩ := bnd ho
        refine s_calll (g_slices_Contains_int_int_ok hy61) (.v flat_bool .n) rfl (.n rfl) rfl rfl rfl .f (.c (.o (.t rfl)) (.c (.o (.t rfl)) .n)) ?_
        show SOps _ _ _ _ _ _ _ _
        refine s_not (.n rfl) rfl rfl (.t rfl) ?_
        refine s_move (.n rfl) rfl rfl (.t rfl) ?_
        rcases Bool.eq_false_or_eq_true ((!y61)) with hb62 | hb62
        · have ho := cnd1 ho hb62
          refine s_loadself rfl UR27 (.g rfl rfl (gt1 hb62)) rfl rfl (.t rfl) ?_
          refine s_move (.g rfl rfl (gt1 hb62)) rfl rfl (.t rfl) ?_
          obtain ⟨y63, hy63, ho⟩ := bnd ho
          refine s_call (pre := []) (post := []) (vs := []) (g_slices_Clone_int_int_ok hy63) rfl (.g rfl rfl (gt1 hb62)) rfl rfl rfl .f (.c (.t rfl) .n) ?_
          intro v64
          show SOps _ _ _ _ _ _ _ _
          refine s_move (.g rfl rfl (gt1 hb62)) rfl rfl (.t rfl) ?_
          refine s_bs (R := (rInt .i64)) S22 Y3 (.g rfl rfl (gt1 hb62)) rfl rfl (.c (.t rfl) .n) rfl (by decide) ?_
          obtain ⟨x66, hx66, ho⟩ := bnd ho
          refine s_app 0 S22 Y3 hx66 (.g rfl rfl (gt1 hb62)) rfl rfl rfl rfl rfl (.t rfl) rfl (.t rfl) rfl ?_
          intro v67
          refine s_st (st_freeze 0 [28] rfl rfl ⟨rfl, trivial⟩) ?_
          obtain ⟨s68, hs68, ho⟩ := bnd ho
          refine s_st (st_cbl (K := K) 0 (goL_inv hs68) rfl rfl) ?_
          obtain ⟨y69, hy69, ho⟩ := bnd ho
          refine s_callcd [0] [] (fun _ h => by cases h <;> exact ⟨by kernel_rfl, by kernel_rfl⟩) (hrec hy69 ((untup (gh g49 0)))) rfl rfl (by decide) rfl (.g rfl rfl (gt1 hb62)) rfl rfl rfl (.t rfl) (.c (.t rfl) .n) ?_
          intro g70
          show SOps _ _ _ _ _ _ _ _
          refine s_not (.g rfl rfl (gt1 hb62)) rfl rfl (.t rfl) ?_
          refine s_pk1 hb62 (.n rfl) rfl rfl (.t rfl) (.t rfl) ?_
          refine s_nilq rfl ?_
          refine r_cond (.t rfl) (fun hq71 => ?_) (fun hq71 => ?_)
          · have ho := cnd1 ho hq71
            refine r_seq ?_
            refine r_region ?_
            refine s_assign (.n rfl) rfl rfl .b ?_
            refine s_nilq rfl ?_
            cases ho
            exact r_ret (fun fr h s => And.intro rfl (Exists.intro [.tuple ((untup (gh g70 0)))] (s.pick [0] ⟨rfl, trivial⟩ rfl (by decide))))
          · have ho := cnd0 ho hq71
            refine r_skipq rfl ?_
            refine r_region ?_
            refine s_ar (.n rfl) rfl rfl (.t rfl) (.i (by decide) (by decide)) .add ?_
            refine s_move (.n rfl) rfl rfl (.t rfl) ?_
            cases ho
            exact s_nil (fun fr h s => And.intro rfl (Exists.intro [.tuple ((untup (gh g70 0)))] (s.pick [0] ⟨rfl, rfl, rfl, rfl, trivial⟩ rfl (by decide))))
        · have ho := cnd0 ho hb62
          refine s_skip (.g rfl rfl (gt0 hb62)) rfl ?_
          refine s_skip (.g rfl rfl (gt0 hb62)) rfl ?_
          refine s_skip (.g rfl rfl (gt0 hb62)) rfl ?_
          refine s_skip (.g rfl rfl (gt0 hb62)) rfl ?_
          refine s_skip (.g rfl rfl (gt0 hb62)) rfl ?_
          refine s_skip (.g rfl rfl (gt0 hb62)) rfl ?_
          refine s_skip (.g rfl rfl (gt0 hb62)) rfl ?_
          refine s_skip (.g rfl rfl (gt0 hb62)) rfl ?_
          refine s_pk0 hb62 (.n rfl) rfl rfl (.t rfl) .b ?_
          refine s_nilq rfl ?_
          refine r_cond (.t rfl) (fun hq => by cases hq) (fun _ => ?_)
          refine r_skipq rfl ?_
          refine r_region ?_
          refine s_ar (.n rfl) rfl rfl (.t rfl) (.i (by decide) (by decide)) .add ?_
          refine s_move (.n rfl) rfl rfl (.t rfl) ?_
          cases ho
          exact s_nil (fun fr h s => And.intro rfl (Exists.intro [.tuple ((untup (gh g49 0)))] (s.pick [0] ⟨rfl, rfl, rfl, rfl, trivial⟩ rfl (by decide))))
      · have ho := cnd0 ho hq50
        cases ho
        exact r_exit (fun fr h s => And.intro rfl (Exists.intro [.tuple ((untup (gh g49 0)))] (s.pick [0] trivial rfl (by decide))))
    · clear ht73
      rcases t73 with b75 | b76
      · have ho := alt_l ho
        intro g77
        show ∀ fr h, St _ [] [(yv, K b75 ((untup (gh g77 0))))] fr h → _
        show SRun _ _ _ _ _ _
        refine r_seq ?_
        refine r_region ?_
        refine s_assign (.n rfl) rfl rfl .b ?_
        refine s_nilq rfl ?_
        cases ho
        exact r_ret (retm_of [0] [.tuple ((untup (gh g77 0)))] (.inr rfl) (.v rfl .n) rfl (by decide))
      · have ho := alt_r ho
        intro g78
        show ∀ fr h, St _ [(5, .val rBool (b76.1))] [(yv, K b76.2 ((untup (gh g78 0))))] fr h → _
        cases ho
        exact id (retm_of [0] [.tuple ((untup (gh g78 0)))] (.inr rfl) (.v rfl .n) rfl (by decide))
theorem g_depot_orders_1_1_ok {σ τ : Type} {step : σ → ((List Int)) → Option (σ ⊕ τ)} {yv : AVal} {K : σ ⊕ τ → List AVal → Sx.Obj} (hcb : CbAt ktab yv (fun x => [.val (rSlice (rInt .i64)) (x)]) step K) {k : Nat} {s_ : σ} {order_0 : (List Int)} {p_1 : Int} {out : ((Bool) × (σ ⊕ τ))} (ho : g_depot_orders_1_1 step k s_ order_0 p_1 = some out) (γ0 : List AVal) : FunM ktab 77 [.val (rSlice (rInt .i64)) order_0, .val (rPtr (rInt .i64)) p_1, .val (rPtr rRaw) yv, .val (rSelfP 77 [.val (rPtr (rInt .i64)) (p_1), .val (rPtr rRaw) (yv)]) ()] [(yv, K (.inl s_) γ0)] [.val rBool (out.1)] (fun γ => [(yv, K (out.2) (untup (gh γ 0)))]) := by
  induction k generalizing s_ order_0 p_1 out γ0 with
  | zero => cases ho
  | succ k ih => exact g_depot_orders_1_1_body_ok hcb (fun h γ0 => ih h γ0) ho γ0
theorem g_depot_orders_1_okm {σ τ : Type} {step : σ → ((List Int)) → Option (σ ⊕ τ)} {yv : AVal} {K : σ ⊕ τ → List AVal → Sx.Obj} (hcb : CbAt ktab yv (fun x => [.val (rSlice (rInt .i64)) (x)]) step K) {s_ : σ} {p_1 : Int} {out : (σ ⊕ τ)} (ho : g_depot_orders_1 step s_ p_1 = some out) (γ0 : List AVal) : FunM ktab 76 [.raw yv, .val (rPtr (rInt .i64)) p_1] [(yv, K (.inl s_) γ0)] [] (fun γ => [(yv, K (out) (untup (gh γ 0)))]) := by
  refine funm_of (F := Try.f76) (by rfl) (by rfl) (by rfl) (fun C => ?_)
  delta g_depot_orders_1 at ho
  refine r_seq ?_
  refine r_region ?_
  refine s_st (st_rawcb (n := 0) hcb rfl) ?_
  refine s_box (.n rfl) rfl rfl (.t rfl) ?_
  refine s_nilq rfl ?_
  refine r_seq ?_
  refine r_region ?_
  refine s_alloc (zv := .nilfunc) (es := [.raw (.nilfunc)]) (by kernel_rfl) (fun _ => (okraw okn)) rfl (.n rfl) rfl rfl ?_
  intro b1
  refine s_nilq rfl ?_
  refine r_seq ?_
  refine r_region ?_
  refine s_mkclo (.n rfl) rfl rfl .n (.c (.t rfl) (.c (.t rfl) (.c (.t rfl) .n))) ?_
  refine s_storeb 0 (UR27).sz rfl (by exact Nat.le_of_ble_eq_true rfl) (.n rfl) rfl rfl (.t rfl) (.t rfl) rfl rfl ?_
  refine s_st (st_freezeg 0 [3] (self_box (g := 77) (cs := [.val (rPtr (rInt .i64)) (p_1), .val (rPtr rRaw) (yv)]) rfl) rfl rfl ⟨rfl, trivial⟩) ?_
  refine s_nilq rfl ?_
  refine r_region ?_
  refine s_loadself rfl UR27 (.n rfl) rfl rfl (.t rfl) ?_
  obtain ⟨y3, hy3, ho⟩ := bnd ho
  refine s_callcd [0] [] (fun _ h => by cases h) (g_depot_orders_1_1_ok hcb hy3 γ0) rfl rfl (by decide) rfl (.n rfl) rfl rfl rfl (.t rfl) (.c (.nil (R := (rInt .i64))) .n) ?_
  intro g4
  show SOps _ _ _ _ _ _ _ _
  cases ho
  exact s_nil (retm_of [0] [.tuple ((untup (gh g4 0)))] (.inl rfl) .n rfl (by decide))
theorem g_depot_orders_1_ok {σ τ : Type} {step : σ → ((List Int)) → Option (σ ⊕ τ)} {yv : AVal} {K : σ ⊕ τ → List AVal → Sx.Obj} (hcb : CbAt ktab yv (fun x => [.val (rSlice (rInt .i64)) (x)]) step K) {s_ : σ} {p_1 : Int} {out : (σ ⊕ τ)} (ho : g_depot_orders_1 step s_ p_1 = some out) (γ0 : List AVal) : FunM ktab 76 [.raw yv, .val (rPtr (rInt .i64)) p_1] [(yv, K (.inl s_) γ0)] [] (fun γ => [(yv, K (out) γ)]) :=
  funm_gh (g_depot_orders_1_okm hcb ho γ0)
theorem g_depot_orders_ok {n_0 : Int} {out : ((Int))} (ho : g_depot_orders n_0 = some out) : Fun ktab 52 [.val (rInt .i64) n_0] [.val (rClo 76 [] [.val (rPtr (rInt .i64)) (out)]) ()] := by
  refine fun_of (F := Try.f52) (by rfl) (by rfl) (by rfl) (fun C hC => ?_)
  delta g_depot_orders at ho
  refine r_seq ?_
  refine r_region ?_
  refine s_box (.n rfl) rfl rfl (.t rfl) ?_
  refine s_pure rfl (.n rfl) rfl (e := .raw .nilfunc) (fun z fr h s => ⟨_, rfl, by simp only [TE.ok]; rfl⟩) ?_
  refine s_nilq rfl ?_
  refine r_seq ?_
  refine r_region ?_
  refine s_mkclo (.n rfl) rfl rfl .n (.c (.t rfl) .n) ?_
  refine s_assign (.n rfl) rfl rfl (.t rfl) ?_
  refine s_nilq rfl ?_
  cases ho
  exact r_ret (ret_of (.inr rfl) (.v rfl .n) (by decide))
theorem g_depot_best_depot_wash_ok {l_0 : (List depot_wash)} {better_1 : ((depot_wash × depot_wash) → Option (Bool))} {out : (depot_wash)} (ho : g_depot_best_depot_wash l_0 better_1 = some out) : Fun ktab 53 [.val (rSlice rdepot_wash) l_0, .val (rFn ktab (depot_wash × depot_wash) (Bool) (fun x => [.val rdepot_wash (x.1), .val rdepot_wash (x.2)]) (fun y => [.val rBool (y)])) better_1] [.val rdepot_wash (out)] := by
  refine fun_of (F := Try.f53) (by rfl) (by rfl) (by rfl) (fun C hC => ?_)
  delta g_depot_best_depot_wash at ho
  refine r_seq ?_
  refine r_region ?_
  refine s_alloc (zv := .agg [.nilslice, .int .i64 0, .int .i64 0]) (es := [.val (rSlice (rInt .i64)) ([]), .val (rInt .i64) (0), .val (rInt .i64) (0)]) (by kernel_rfl) (fun _ => (oknil (okint (okint okn)))) rfl (.n rfl) rfl rfl ?_
  intro b1
  refine s_nilq rfl ?_
  refine r_seq ?_
  refine r_region ?_
  refine s_move (.n rfl) rfl rfl (.t rfl) ?_
  obtain ⟨x3, hx3, ho⟩ := bnd ho
  refine s_idx S99 hx3 (.n rfl) rfl rfl (.t rfl) (.i (by decide) (by decide)) ?_
  refine s_load U102 (.n rfl) rfl rfl (.t rfl) ?_
  refine s_alloc (zv := .agg [.nilslice, .int .i64 0, .int .i64 0]) (es := [.val (rSlice (rInt .i64)) ([]), .val (rInt .i64) (0), .val (rInt .i64) (0)]) (by kernel_rfl) (fun _ => (oknil (okint (okint okn)))) rfl (.n rfl) rfl rfl ?_
  intro b4
  refine s_storebs 0 U102 rfl (cells_pair (cells_one rfl) (cells_pair (cells_one rfl) (cells_pair (cells_one rfl) cells_unit rfl) rfl) rfl) (by rfl) (.n rfl) rfl rfl (.t rfl) (.t rfl) (by rfl) ?_
  refine s_nilq rfl ?_
  refine r_seq ?_
  refine r_seq ?_
  refine r_region ?_
  refine s_move (.n rfl) rfl rfl (.t rfl) ?_
  obtain ⟨x6, hx6, ho⟩ := bnd ho
  refine s_slO S99 hx6 (.n rfl) rfl rfl (.t rfl) (.s (.i (by decide) (by decide))) .n ?_
  refine s_len S99 (.n rfl) rfl rfl rfl rfl rfl (.t rfl) ?_
  refine s_move (.n rfl) rfl rfl (.i (by decide) (by decide)) ?_
  refine s_nilq rfl ?_
  refine r_block ?_
  obtain ⟨t27, ht27, ho⟩ := bnd ho
  refine r_loop (σ := (Int × (List Int) × Int × Int)) (τ := ((List Int) × Int × Int)) (G := List AVal) (fun s g => ([(1, .val (rFn ktab (depot_wash × depot_wash) (Bool) (fun x => [.val rdepot_wash (x.1), .val rdepot_wash (x.2)]) (fun y => [.val rBool (y)])) (better_1)), (4, .raw (.ptr b1 0)), (5, .raw (.ptr b4 0)), (12, .val (rSlice rdepot_wash) (x6)), (13, .val (rInt .i64) ((lenI x6))), (14, .val (rInt .i64) (s.1))], [(.ptr b4 0, .box [.val (rSlice (rInt .i64)) (s.2.1), .val (rInt .i64) (s.2.2.1), .val (rInt .i64) (s.2.2.2)]), (.ptr b1 0, .box [.val (rSlice (rInt .i64)) ([]), .val (rInt .i64) (0), .val (rInt .i64) (0)])])) (fun b => (.exit 0, fun g => ([(4, .raw (.ptr b1 0)), (5, .raw (.ptr b4 0))], [(.ptr b4 0, .box [.val (rSlice (rInt .i64)) (b.1), .val (rInt .i64) (b.2.1), .val (rInt .i64) (b.2.2)]), (.ptr b1 0, .box [.val (rSlice (rInt .i64)) ([]), .val (rInt .i64) (0), .val (rInt .i64) (0)])]))) _ [] ht27 (fun fr h s => s.pick [0, 1] ⟨rfl, rfl, rfl, rfl, rfl, rfl, trivial⟩ rfl (by decide)) ?_ ?_ ?_
  · intro t
    exact (show (.exit 0 : AExit) ≠ .normal from fun e => by cases e)
  · clear ho
    intro s19 g20 r28 ho
    refine r_seq ?_
    refine r_region ?_
    refine s_cmp (.n rfl) rfl rfl (.t rfl) (.t rfl) .lss ?_
    refine s_nilq rfl ?_
    refine r_seq ?_
    refine r_cond (.t rfl) (fun hq21 => ?_) (fun hq21 => ?_)
    · have ho := cnd1 ho hq21
      refine r_skipq rfl ?_
      refine r_seq ?_
      refine r_block ?_
      refine r_seq ?_
      refine r_region ?_
      obtain ⟨x22, hx22, ho⟩ := bnd ho
      refine s_idx S99 hx22 (.n rfl) rfl rfl (.t rfl) (.t rfl) ?_
      refine s_load U102 (.n rfl) rfl rfl (.t rfl) ?_
      refine s_alloc (zv := .agg [.nilslice, .int .i64 0, .int .i64 0]) (es := [.val (rSlice (rInt .i64)) ([]), .val (rInt .i64) (0), .val (rInt .i64) (0)]) (by kernel_rfl) (fun _ => (oknil (okint (okint okn)))) rfl (.n rfl) rfl rfl ?_
      intro b23
      refine s_storebs 0 U102 rfl (cells_pair (cells_one rfl) (cells_pair (cells_one rfl) (cells_pair (cells_one rfl) cells_unit rfl) rfl) rfl) (by rfl) (.n rfl) rfl rfl (.t rfl) (.t rfl) (by rfl) ?_
      refine s_st (st_freezeb (R := rdepot_wash) (a := x22) 0 [7] (cells_pair (cells_one rfl) (cells_pair (cells_one rfl) (cells_pair (cells_one rfl) cells_unit rfl) rfl) rfl) rfl rfl ⟨rfl, trivial⟩) ?_
      refine s_nilq rfl ?_
      refine r_seq ?_
      refine r_region ?_
      refine s_move (.n rfl) rfl rfl (.t rfl) ?_
      refine s_load U102 (.n rfl) rfl rfl (.t rfl) ?_
      refine s_loadbs (R := rdepot_wash) (a := (s19.2.1, s19.2.2.1, s19.2.2.2, ())) 0 (fun _ h => by cases h <;> rfl) U102 (cells_pair (cells_one rfl) (cells_pair (cells_one rfl) (cells_pair (cells_one rfl) cells_unit rfl) rfl) rfl) (.n rfl) rfl rfl (.t rfl) rfl ?_
      obtain ⟨y25, hy25, ho⟩ := bnd ho
      refine s_callv hy25 (.n rfl) rfl rfl rfl (.t rfl) (.c (.t rfl) (.c (.t rfl) .n)) ?_
      show SOps _ _ _ _ _ _ _ _
      refine s_nilq rfl ?_
      refine r_cond (.t rfl) (fun hq26 => ?_) (fun hq26 => ?_)
      · have ho := cnd1 ho hq26
        refine r_region ?_
        refine s_load U102 (.n rfl) rfl rfl (.t rfl) ?_
        refine s_storebs 0 U102 rfl (cells_pair (cells_one rfl) (cells_pair (cells_one rfl) (cells_pair (cells_one rfl) cells_unit rfl) rfl) rfl) (by rfl) (.n rfl) rfl rfl (.t rfl) (.t rfl) (by rfl) ?_
        refine s_nilq rfl ?_
        refine r_region ?_
        refine s_ar (.n rfl) rfl rfl (.t rfl) (.i (by decide) (by decide)) .add ?_
        refine s_move (.n rfl) rfl rfl (.t rfl) ?_
        cases ho
        exact s_nil (fun fr h s => And.intro rfl (Exists.intro [] (s.pick [0, 1] ⟨rfl, rfl, rfl, rfl, rfl, rfl, trivial⟩ rfl (by decide))))
      · have ho := cnd0 ho hq26
        refine r_skipq rfl ?_
        refine r_region ?_
        refine s_ar (.n rfl) rfl rfl (.t rfl) (.i (by decide) (by decide)) .add ?_
        refine s_move (.n rfl) rfl rfl (.t rfl) ?_
        cases ho
        exact s_nil (fun fr h s => And.intro rfl (Exists.intro [] (s.pick [0, 1] ⟨rfl, rfl, rfl, rfl, rfl, rfl, trivial⟩ rfl (by decide))))
    · have ho := cnd0 ho hq21
      cases ho
      exact r_exit (fun fr h s => And.intro rfl (Exists.intro [] (s.pick [0, 1] ⟨rfl, rfl, trivial⟩ rfl (by decide))))
  · intro g29
    show ∀ fr h, St _ [(4, .raw (.ptr b1 0)), (5, .raw (.ptr b4 0))] [(.ptr b4 0, .box [.val (rSlice (rInt .i64)) (t27.1), .val (rInt .i64) (t27.2.1), .val (rInt .i64) (t27.2.2)]), (.ptr b1 0, .box [.val (rSlice (rInt .i64)) ([]), .val (rInt .i64) (0), .val (rInt .i64) (0)])] fr h → _
    show SRun _ _ _ _ _ _
    refine r_seq ?_
    refine r_region ?_
    refine s_loadbs (R := rdepot_wash) (a := (t27.1, t27.2.1, t27.2.2, ())) 0 (fun _ h => by cases h <;> rfl) U102 (cells_pair (cells_one rfl) (cells_pair (cells_one rfl) (cells_pair (cells_one rfl) cells_unit rfl) rfl) rfl) (.n rfl) rfl rfl (.t rfl) rfl ?_
    refine s_storebs 1 U102 rfl (cells_pair (cells_one rfl) (cells_pair (cells_one rfl) (cells_pair (cells_one rfl) cells_unit rfl) rfl) rfl) (by rfl) (.n rfl) rfl rfl (.t rfl) (.t rfl) (by rfl) ?_
    refine s_nilq rfl ?_
    cases ho
    exact r_ret (ret_of (.inr rfl) (.b 1 U102 (cells_pair (cells_one rfl) (cells_pair (cells_one rfl) (cells_pair (cells_one rfl) cells_unit rfl) rfl) rfl) rfl rfl .n) (by decide))
theorem g_depot_washed_ok {l_0 : (List WashJob)} {order_1 : (List Int)} {out : (depot_wash)} (ho : g_depot_washed l_0 order_1 = some out) : Fun ktab 54 [.val (rSlice rWashJob) l_0, .val (rSlice (rInt .i64)) order_1] [.val rdepot_wash (out)] := by
  refine fun_of (F := Try.f54) (by rfl) (by rfl) (by rfl) (fun C hC => ?_)
  delta g_depot_washed at ho
  refine r_seq ?_
  refine r_region ?_
  refine s_alloc (zv := .agg [.nilslice, .int .i64 0, .int .i64 0]) (es := [.val (rSlice (rInt .i64)) ([]), .val (rInt .i64) (0), .val (rInt .i64) (0)]) (by kernel_rfl) (fun _ => (oknil (okint (okint okn)))) rfl (.n rfl) rfl rfl ?_
  intro b1
  refine s_nilq rfl ?_
  refine r_seq ?_
  refine r_region ?_
  refine s_move (.n rfl) rfl rfl (.t rfl) ?_
  refine s_build (R := rdepot_wash) B102 (.n rfl) rfl rfl rfl (.p (.t rfl) rfl (.z (fun _ => zint) (.z (fun _ => zint) (.n rfl)))) ?_
  refine s_alloc (zv := .agg [.nilslice, .int .i64 0, .int .i64 0]) (es := [.val (rSlice (rInt .i64)) ([]), .val (rInt .i64) (0), .val (rInt .i64) (0)]) (by kernel_rfl) (fun _ => (oknil (okint (okint okn)))) rfl (.n rfl) rfl rfl ?_
  intro b3
  refine s_storebs 0 U102 rfl (cells_pair (cells_one rfl) (cells_pair (cells_one rfl) (cells_pair (cells_one rfl) cells_unit rfl) rfl) rfl) (by rfl) (.n rfl) rfl rfl (.t rfl) (.t rfl) (by rfl) ?_
  refine s_nilq rfl ?_
  refine r_seq ?_
  refine r_seq ?_
  refine r_region ?_
  refine s_move (.n rfl) rfl rfl (.t rfl) ?_
  refine s_len S22 (.n rfl) rfl rfl rfl rfl rfl (.t rfl) ?_
  refine s_move (.n rfl) rfl rfl (.i (by decide) (by decide)) ?_
  refine s_nilq rfl ?_
  refine r_block ?_
  obtain ⟨t22, ht22, ho⟩ := bnd ho
  refine r_loop (σ := (Int × Int × Int)) (τ := (Int × Int)) (G := List AVal) (fun s g => ([(0, .val (rSlice rWashJob) (l_0)), (4, .raw (.ptr b1 0)), (5, .raw (.ptr b3 0)), (10, .val (rSlice (rInt .i64)) (order_1)), (11, .val (rInt .i64) ((lenI order_1))), (12, .val (rInt .i64) (s.1))], [(.ptr b3 0, .box [.val (rSlice (rInt .i64)) ((((order_1, 0, 0, ()) : depot_wash)).1), .val (rInt .i64) (s.2.1), .val (rInt .i64) (s.2.2)]), (.ptr b1 0, .box [.val (rSlice (rInt .i64)) ([]), .val (rInt .i64) (0), .val (rInt .i64) (0)])])) (fun b => (.exit 0, fun g => ([(4, .raw (.ptr b1 0)), (5, .raw (.ptr b3 0))], [(.ptr b3 0, .box [.val (rSlice (rInt .i64)) ((((order_1, 0, 0, ()) : depot_wash)).1), .val (rInt .i64) (b.1), .val (rInt .i64) (b.2)]), (.ptr b1 0, .box [.val (rSlice (rInt .i64)) ([]), .val (rInt .i64) (0), .val (rInt .i64) (0)])]))) _ [] ht22 (fun fr h s => s.pick [0, 1] ⟨rfl, rfl, rfl, rfl, rfl, rfl, trivial⟩ rfl (by decide)) ?_ ?_ ?_
  · intro t
    exact (show (.exit 0 : AExit) ≠ .normal from fun e => by cases e)
  · clear ho
    intro s15 g16 r23 ho
    refine r_seq ?_
    refine r_region ?_
    refine s_cmp (.n rfl) rfl rfl (.t rfl) (.t rfl) .lss ?_
    refine s_nilq rfl ?_
    refine r_seq ?_
    refine r_cond (.t rfl) (fun hq17 => ?_) (fun hq17 => ?_)
    · have ho := cnd1 ho hq17
      refine r_skipq rfl ?_
      refine r_seq ?_
      refine r_block ?_
      refine r_seq ?_
      refine r_region ?_
      obtain ⟨x18, hx18, ho⟩ := bnd ho
      refine s_idx S22 hx18 (.n rfl) rfl rfl (.t rfl) (.t rfl) ?_
      refine s_load U3 (.n rfl) rfl rfl (.t rfl) ?_
      refine s_assign (.n rfl) rfl rfl (.t rfl) ?_
      refine s_nilq rfl ?_
      refine r_seq ?_
      refine r_draw [1] (by kernel_rfl) ?_
      refine s_faraw F102_2 (by decide) (.n rfl) rfl rfl (.t rfl) ?_
      refine s_loadb 0 (fun _ h => by cases h <;> rfl) (U3).agg rfl (.n rfl) rfl rfl (.t rfl) rfl ?_
      refine s_move (.n rfl) rfl rfl (.t rfl) ?_
      refine s_move (.n rfl) rfl rfl (.t rfl) ?_
      obtain ⟨x19, hx19, ho⟩ := bnd ho
      refine s_idx S49 hx19 (.n rfl) rfl rfl (.t rfl) (.t rfl) ?_
      refine s_fa F76_0 fk_WashJob_0 (by decide) (.n rfl) rfl rfl (.t rfl) ?_
      refine s_load U3 (.n rfl) rfl rfl (.t rfl) ?_
      refine s_max (.n rfl) rfl rfl rfl rfl (.t rfl) (.t rfl) ?_
      refine s_move (.n rfl) rfl rfl (.t rfl) ?_
      refine s_move (.n rfl) rfl rfl (.t rfl) ?_
      obtain ⟨x20, hx20, ho⟩ := bnd ho
      refine s_idx S49 hx20 (.n rfl) rfl rfl (.t rfl) (.t rfl) ?_
      refine s_fa F76_2 fk_WashJob_2 (by decide) (.n rfl) rfl rfl (.t rfl) ?_
      refine s_load U3 (.n rfl) rfl rfl (.t rfl) ?_
      refine s_ar (.n rfl) rfl rfl (.t rfl) (.t rfl) .add ?_
      refine s_faraw F102_2 (by decide) (.n rfl) rfl rfl (.t rfl) ?_
      refine s_storeb 0 (U3).sz rfl (by exact Nat.le_of_ble_eq_true rfl) (.n rfl) rfl rfl (.t rfl) (.t rfl) rfl rfl ?_
      refine s_nilq rfl ?_
      refine r_draw [1, 3] (by kernel_rfl) ?_
      refine s_faraw F102_1 (by decide) (.n rfl) rfl rfl (.t rfl) ?_
      refine s_loadb 0 (fun _ h => by cases h <;> rfl) (U3).agg rfl (.n rfl) rfl rfl (.t rfl) rfl ?_
      refine s_faraw F102_2 (by decide) (.n rfl) rfl rfl (.t rfl) ?_
      refine s_loadb 0 (fun _ h => by cases h <;> rfl) (U3).agg rfl (.n rfl) rfl rfl (.t rfl) rfl ?_
      refine s_move (.n rfl) rfl rfl (.t rfl) ?_
      refine s_move (.n rfl) rfl rfl (.t rfl) ?_
      obtain ⟨x21, hx21, ho⟩ := bnd ho
      refine s_idx S49 hx21 (.n rfl) rfl rfl (.t rfl) (.t rfl) ?_
      refine s_fa F76_1 fk_WashJob_1 (by decide) (.n rfl) rfl rfl (.t rfl) ?_
      refine s_load U3 (.n rfl) rfl rfl (.t rfl) ?_
      refine s_ar (.n rfl) rfl rfl (.t rfl) (.t rfl) .sub ?_
      refine s_max (.n rfl) rfl rfl rfl rfl (.t rfl) (.t rfl) ?_
      refine s_faraw F102_1 (by decide) (.n rfl) rfl rfl (.t rfl) ?_
      refine s_storeb 0 (U3).sz rfl (by exact Nat.le_of_ble_eq_true rfl) (.n rfl) rfl rfl (.t rfl) (.t rfl) rfl rfl ?_
      refine s_nilq rfl ?_
      refine r_region ?_
      refine s_ar (.n rfl) rfl rfl (.t rfl) (.i (by decide) (by decide)) .add ?_
      refine s_move (.n rfl) rfl rfl (.t rfl) ?_
      cases ho
      exact s_nil (fun fr h s => And.intro rfl (Exists.intro [] (s.pick [0, 1] ⟨rfl, rfl, rfl, rfl, rfl, rfl, trivial⟩ rfl (by decide))))
    · have ho := cnd0 ho hq17
      cases ho
      exact r_exit (fun fr h s => And.intro rfl (Exists.intro [] (s.pick [0, 1] ⟨rfl, rfl, trivial⟩ rfl (by decide))))
  · intro g24
    show ∀ fr h, St _ [(4, .raw (.ptr b1 0)), (5, .raw (.ptr b3 0))] [(.ptr b3 0, .box [.val (rSlice (rInt .i64)) ((((order_1, 0, 0, ()) : depot_wash)).1), .val (rInt .i64) (t22.1), .val (rInt .i64) (t22.2)]), (.ptr b1 0, .box [.val (rSlice (rInt .i64)) ([]), .val (rInt .i64) (0), .val (rInt .i64) (0)])] fr h → _
    show SRun _ _ _ _ _ _
    refine r_seq ?_
    refine r_region ?_
    refine s_loadbs (R := rdepot_wash) (a := ((((order_1, 0, 0, ()) : depot_wash)).1, t22.1, t22.2, ())) 0 (fun _ h => by cases h <;> rfl) U102 (cells_pair (cells_one rfl) (cells_pair (cells_one rfl) (cells_pair (cells_one rfl) cells_unit rfl) rfl) rfl) (.n rfl) rfl rfl (.t rfl) rfl ?_
    refine s_storebs 1 U102 rfl (cells_pair (cells_one rfl) (cells_pair (cells_one rfl) (cells_pair (cells_one rfl) cells_unit rfl) rfl) rfl) (by rfl) (.n rfl) rfl rfl (.t rfl) (.t rfl) (by rfl) ?_
    refine s_nilq rfl ?_
    cases ho
    exact r_ret (ret_of (.inr rfl) (.b 1 U102 (cells_pair (cells_one rfl) (cells_pair (cells_one rfl) (cells_pair (cells_one rfl) cells_unit rfl) rfl) rfl) rfl rfl .n) (by decide))
theorem g_depot_Wash_1_ok {a_0 : depot_wash} {b_1 : depot_wash} {out : (Bool)} (ho : g_depot_Wash_1 a_0 b_1 = some out) : Fun ktab 55 [.val rdepot_wash a_0, .val rdepot_wash b_1] [.val rBool (out)] := by
  refine fun_of (F := Try.f55) (by rfl) (by rfl) (by rfl) (fun C hC => ?_)
  delta g_depot_Wash_1 at ho
  refine r_seq ?_
  refine r_region ?_
  refine s_box (.n rfl) rfl rfl (.t rfl) ?_
  refine s_box (.n rfl) rfl rfl (.t rfl) ?_
  refine s_assign (.n rfl) rfl rfl .b ?_
  refine s_nilq rfl ?_
  refine r_seq ?_
  obtain ⟨c3, hc3, ho⟩ := bnd ho
  refine r_cut (τ := (Bool)) (G := Unit) (fun t => (.normal, fun _ => ([(4, .val rBool (t))], []))) (t := c3) ?_ ?_
  · have ho := hc3
    clear hc3
    refine r_region ?_
    refine s_fa F102_1 fk_depot_wash_1 (by decide) (.n rfl) rfl rfl (.t rfl) ?_
    refine s_load U3 (.n rfl) rfl rfl (.t rfl) ?_
    refine s_fa F102_1 fk_depot_wash_1 (by decide) (.n rfl) rfl rfl (.t rfl) ?_
    refine s_load U3 (.n rfl) rfl rfl (.t rfl) ?_
    refine s_cmp (.n rfl) rfl rfl (.t rfl) (.t rfl) .lss ?_
    refine s_move (.n rfl) rfl rfl (.t rfl) ?_
    rcases Bool.eq_false_or_eq_true ((decide (a_0.2.1 < b_1.2.1))) with hb4 | hb4
    · have ho := cnd1 ho hb4
      refine s_skip (.g rfl rfl (gf1 hb4)) rfl ?_
      refine s_skip (.g rfl rfl (gf1 hb4)) rfl ?_
      refine s_skip (.g rfl rfl (gf1 hb4)) rfl ?_
      refine s_skip (.g rfl rfl (gf1 hb4)) rfl ?_
      refine s_skip (.g rfl rfl (gf1 hb4)) rfl ?_
      refine s_skip (.g rfl rfl (gf1 hb4)) rfl ?_
      refine s_skip (.u rfl rfl rfl) rfl ?_
      refine s_skip (.u rfl rfl rfl) rfl ?_
      refine s_skip (.u rfl rfl rfl) rfl ?_
      refine s_skip (.u rfl rfl rfl) rfl ?_
      refine s_skip (.u rfl rfl rfl) rfl ?_
      refine s_skip (.g rfl rfl (gf1 hb4)) rfl ?_
      refine s_pk1 hb4 (.n rfl) rfl rfl (.t rfl) .b ?_
      refine s_assign (.n rfl) rfl rfl (.t rfl) ?_
      cases ho
      exact s_nil (fun fr h s => And.intro rfl (Exists.intro () (s.pick [] ⟨rfl, trivial⟩ rfl (by decide))))
    · have ho := cnd0 ho hb4
      refine s_fa F102_1 fk_depot_wash_1 (by decide) (.g rfl rfl (gf0 hb4)) rfl rfl (.t rfl) ?_
      refine s_load U3 (.g rfl rfl (gf0 hb4)) rfl rfl (.t rfl) ?_
      refine s_fa F102_1 fk_depot_wash_1 (by decide) (.g rfl rfl (gf0 hb4)) rfl rfl (.t rfl) ?_
      refine s_load U3 (.g rfl rfl (gf0 hb4)) rfl rfl (.t rfl) ?_
      refine s_cmp (.g rfl rfl (gf0 hb4)) rfl rfl (.t rfl) (.t rfl) .eql ?_
      refine s_move (.g rfl rfl (gf0 hb4)) rfl rfl (.t rfl) ?_
      rcases Bool.eq_false_or_eq_true ((a_0.2.1 == b_1.2.1)) with hb5 | hb5
      · have ho := cnd1 ho hb5
        refine s_fa F102_2 fk_depot_wash_2 (by decide) (.g rfl rfl (gt1 hb5)) rfl rfl (.t rfl) ?_
        refine s_load U3 (.g rfl rfl (gt1 hb5)) rfl rfl (.t rfl) ?_
        refine s_fa F102_2 fk_depot_wash_2 (by decide) (.g rfl rfl (gt1 hb5)) rfl rfl (.t rfl) ?_
        refine s_load U3 (.g rfl rfl (gt1 hb5)) rfl rfl (.t rfl) ?_
        refine s_cmp (.g rfl rfl (gt1 hb5)) rfl rfl (.t rfl) (.t rfl) .lss ?_
        refine s_pk1 hb5 (.g rfl rfl (gf0 hb4)) rfl rfl (.t rfl) (.t rfl) ?_
        refine s_pk0 hb4 (.n rfl) rfl rfl (.t rfl) (.t rfl) ?_
        refine s_assign (.n rfl) rfl rfl (.t rfl) ?_
        cases ho
        exact s_nil (fun fr h s => And.intro rfl (Exists.intro () (s.pick [] ⟨rfl, trivial⟩ rfl (by decide))))
      · have ho := cnd0 ho hb5
        refine s_skip (.g rfl rfl (gt0 hb5)) rfl ?_
        refine s_skip (.g rfl rfl (gt0 hb5)) rfl ?_
        refine s_skip (.g rfl rfl (gt0 hb5)) rfl ?_
        refine s_skip (.g rfl rfl (gt0 hb5)) rfl ?_
        refine s_skip (.g rfl rfl (gt0 hb5)) rfl ?_
        refine s_pk0 hb5 (.g rfl rfl (gf0 hb4)) rfl rfl (.t rfl) .b ?_
        refine s_pk0 hb4 (.n rfl) rfl rfl (.t rfl) (.t rfl) ?_
        refine s_assign (.n rfl) rfl rfl (.t rfl) ?_
        cases ho
        exact s_nil (fun fr h s => And.intro rfl (Exists.intro () (s.pick [] ⟨rfl, trivial⟩ rfl (by decide))))
  · intro _
    show SRun _ _ _ _ _ _
    cases ho
    exact r_ret (ret_of (.inr rfl) (.v rfl .n) (by decide))
theorem g_depot_Wash_ok {l_0 : (List WashJob)} {out : ((List Int) × Int × Int)} (ho : g_depot_Wash l_0 = some out) : Fun ktab 23 [.val (rSlice rWashJob) l_0] [.val (rSlice (rInt .i64)) (out.1), .val (rInt .i64) (out.2.1), .val (rInt .i64) (out.2.2)] := by
  refine fun_of (F := Try.f23) (by rfl) (by rfl) (by rfl) (fun C hC => ?_)
  delta g_depot_Wash at ho
  refine r_seq ?_
  refine r_region ?_
  refine s_box (.n rfl) rfl rfl (.t rfl) ?_
  refine s_assign (.n rfl) rfl rfl (.nil (R := (rInt .i64))) ?_
  refine s_assign (.n rfl) rfl rfl (.i (by decide) (by decide)) ?_
  refine s_assign (.n rfl) rfl rfl (.i (by decide) (by decide)) ?_
  refine s_nilq rfl ?_
  refine r_seq ?_
  refine r_seq ?_
  refine r_region ?_
  refine s_load U49 (.n rfl) rfl rfl (.t rfl) ?_
  obtain ⟨y1, hy1, ho⟩ := bnd ho
  refine s_calll (g_depot_jobs_ok hy1) (.v flat_bool .n) rfl (.n rfl) rfl rfl rfl .f (.c (.o (.t rfl)) .n) ?_
  show SOps _ _ _ _ _ _ _ _
  refine s_not (.n rfl) rfl rfl (.t rfl) ?_
  refine s_nilq rfl ?_
  refine r_cond (.t rfl) (fun hq2 => ?_) (fun hq2 => ?_)
  · have ho := cnd1 ho hq2
    refine r_seq ?_
    refine r_region ?_
    refine s_assign (.n rfl) rfl rfl (.nil (R := (rInt .i64))) ?_
    refine s_assign (.n rfl) rfl rfl (.i (by decide) (by decide)) ?_
    refine s_assign (.n rfl) rfl rfl (.i (by decide) (by decide)) ?_
    refine s_nilq rfl ?_
    cases ho
    exact r_ret (ret_of (.inr rfl) (.v rfl (.v rfl (.v rfl .n))) (by decide))
  · have ho := cnd0 ho hq2
    refine r_skipq rfl ?_
    refine r_seq ?_
    refine r_region ?_
    refine s_st (st_nilrow rdepot_wash) ?_
    refine s_alloc (zv := .nilslice) (es := [.raw .nilslice]) (by kernel_rfl) (fun _ => (okraw okn)) rfl (.n rfl) rfl rfl ?_
    intro b4
    refine s_nilq rfl ?_
    refine r_seq ?_
    refine r_seq ?_
    refine r_region ?_
    refine s_load U49 (.n rfl) rfl rfl (.t rfl) ?_
    refine s_len S49 (.n rfl) rfl rfl rfl rfl rfl (.t rfl) ?_
    obtain ⟨y6, hy6, ho⟩ := bnd ho
    refine s_call (pre := []) (post := []) (vs := []) (g_depot_orders_ok hy6) rfl (.n rfl) rfl rfl rfl .f (.c (.t rfl) .n) ?_
    show SOps _ _ _ _ _ _ _ _
    refine s_nilq rfl ?_
    refine r_block ?_
    obtain ⟨t34, ht34, ho⟩ := bnd ho
    refine r_range (σ := ((List depot_wash))) (τ := Unit) (X := ((List Int))) (ins := (fun x => [.val (rSlice (rInt .i64)) (x)])) (altO (fun s g => [(.ptr b4 0, .box [.raw ((gh g 0))]), ((gh g 0), .row rdepot_wash (s))]) (fun _ _ => [])) (fun _ => none) (s0 := []) (r := t34) [.nilslice] [0, 1] [] rfl (.t rfl) rfl rfl (by decide) (fun _ => rfl) (fun yv K hcb γ => g_depot_orders_1_ok hcb ht34 γ) ?_ ?_
    · clear ho ht34
      intro s24 g25 x7 r35 ho C
      refine r_region ?_
      refine s_assign (.n rfl) rfl rfl (.t rfl) ?_
      refine s_nil (fun fr h s => And.intro rfl (Exists.intro _ (Exists.intro _ (And.intro s (fun C => ?_)))))
      refine r_block ?_
      refine r_draw [0] (by kernel_rfl) ?_
      refine s_loadb 0 (fun _ h => by cases h <;> rfl) (U99).agg rfl (.n rfl) rfl rfl (.t rfl) rfl ?_
      refine s_load U49 (.n rfl) rfl rfl (.t rfl) ?_
      refine s_move (.n rfl) rfl rfl (.t rfl) ?_
      obtain ⟨y27, hy27, ho⟩ := bnd ho
      refine s_call (pre := []) (post := []) (vs := []) (g_depot_washed_ok hy27) rfl (.n rfl) rfl rfl rfl .f (.c (.t rfl) (.c (.t rfl) .n)) ?_
      show SOps _ _ _ _ _ _ _ _
      refine s_bs (R := rdepot_wash) S99 Y102 (.n rfl) rfl rfl (.c (.t rfl) .n) rfl (by decide) ?_
      obtain ⟨x28, hx28, ho⟩ := bnd ho
      refine s_app 1 S99 Y102 hx28 (.n rfl) rfl rfl rfl rfl rfl (.t rfl) rfl (.t rfl) rfl ?_
      intro v29
      refine s_st (st_freeze 0 [19] rfl rfl ⟨rfl, trivial⟩) ?_
      obtain ⟨y30, hy30, ho⟩ := bnd ho
      refine s_call (pre := []) (post := []) (vs := []) (g_depot_best_depot_wash_ok hy30) rfl (.n rfl) rfl rfl rfl .f (.c (.t rfl) (.c (.fv (opd_fn (fun x y hf => g_depot_Wash_1_ok hf) rfl)) .n)) ?_
      show SOps _ _ _ _ _ _ _ _
      refine s_bso (R := rdepot_wash) S99 Y102 (.n rfl) rfl rfl (.c (.t rfl) .n) rfl (by decide) ?_
      intro v31
      refine s_storebo 1 0 (U99).sz rfl rfl (by exact Nat.le_of_ble_eq_true rfl) (.n rfl) rfl rfl (.t rfl) (.t rfl) (by rfl) ?_
      cases ho
      exact s_nil (fun fr h s => And.intro rfl (Exists.intro [v31] (s.pick [1, 0] trivial rfl (by decide))))
    · clear ht34
      have hz := bnd ho
      clear ho
      obtain ⟨b36, h42, ho⟩ := hz
      have h42 := goL_inv h42
      subst h42
      intro g38
      refine st_wk (Γ' := [(0, .val (rSlice rWashJob) (l_0)), (1, .val (rPtr (rSlice rWashJob)) (l_0)), (2, .val (rSlice (rInt .i64)) ([])), (3, .val (rInt .i64) (0)), (4, .val (rInt .i64) (0)), (5, .raw (.ptr b4 0)), (7, .val (rSlice rWashJob) (l_0)), (8, .val rBool (y1)), (9, .val rBool ((!y1))), (10, .val (rSlice rWashJob) (l_0)), (11, .val (rInt .i64) ((lenI l_0))), (12, .val (rClo 76 [] [.val (rPtr (rInt .i64)) (y6)]) ())]) (L' := [(.ptr b4 0, .box [.raw ((gh g38 0))]), ((gh g38 0), .row rdepot_wash (b36))]) [0, 1] ⟨rfl, rfl, rfl, rfl, rfl, rfl, rfl, rfl, rfl, rfl, rfl, rfl, trivial⟩ rfl (by decide) ?_
      show ∀ fr h, St _ [(0, .val (rSlice rWashJob) (l_0)), (1, .val (rPtr (rSlice rWashJob)) (l_0)), (2, .val (rSlice (rInt .i64)) ([])), (3, .val (rInt .i64) (0)), (4, .val (rInt .i64) (0)), (5, .raw (.ptr b4 0)), (7, .val (rSlice rWashJob) (l_0)), (8, .val rBool (y1)), (9, .val rBool ((!y1))), (10, .val (rSlice rWashJob) (l_0)), (11, .val (rInt .i64) ((lenI l_0))), (12, .val (rClo 76 [] [.val (rPtr (rInt .i64)) (y6)]) ())] [(.ptr b4 0, .box [.raw ((gh g38 0))]), ((gh g38 0), .row rdepot_wash (b36))] fr h → _
      show SRun _ _ _ _ _ _
      refine r_seq ?_
      refine r_draw [0, 3, 4, 7] (by kernel_rfl) ?_
      refine s_loadb 0 (fun _ h => by cases h <;> rfl) (U99).agg rfl (.n rfl) rfl rfl (.t rfl) rfl ?_
      obtain ⟨x40, hx40, ho⟩ := bnd ho
      refine s_idxo 1 S99 hx40 (.n rfl) rfl rfl (.t rfl) rfl (.i (by decide) (by decide)) ?_
      refine s_faelt F102_0 (by decide) (.n rfl) rfl rfl (.t rfl) ?_
      refine s_loado 1 (fun _ h => by cases h <;> rfl) U22 fk_depot_wash_0 (idx_inv hx40).2.2.2 (.n rfl) rfl rfl (.t rfl) rfl ?_
      refine s_loadb 0 (fun _ h => by cases h <;> rfl) (U99).agg rfl (.n rfl) rfl rfl (.t rfl) rfl ?_
      obtain ⟨x41, hx41, ho⟩ := bnd ho
      refine s_idxo 1 S99 hx41 (.n rfl) rfl rfl (.t rfl) rfl (.i (by decide) (by decide)) ?_
      refine s_faelt F102_1 (by decide) (.n rfl) rfl rfl (.t rfl) ?_
      refine s_loado 1 (fun _ h => by cases h <;> rfl) U3 fk_depot_wash_1 (idx_inv hx41).2.2.2 (.n rfl) rfl rfl (.t rfl) rfl ?_
      refine s_assign (.n rfl) rfl rfl (.t rfl) ?_
      refine s_assign (.n rfl) rfl rfl (.t rfl) ?_
      refine s_assign (.n rfl) rfl rfl (.i (by decide) (by decide)) ?_
      refine s_nilq rfl ?_
      cases ho
      exact r_ret (ret_of (.inr rfl) (.v rfl (.v rfl (.v rfl .n))) (by decide))
theorem g_ref09_in_ok {x_0 : Int} {low_1 : Int} {high_2 : Int} {out : (Bool)} (ho : g_ref09_in x_0 low_1 high_2 = some out) : Fun ktab 40 [.val (rInt .i64) x_0, .val (rInt .i64) low_1, .val (rInt .i64) high_2] [.val rBool (out)] := by
  refine fun_of (F := Try.f40) (by rfl) (by rfl) (by rfl) (fun C hC => ?_)
  delta g_ref09_in at ho
  refine r_seq ?_
  refine r_region ?_
  refine s_assign (.n rfl) rfl rfl .b ?_
  refine s_nilq rfl ?_
  refine r_seq ?_
  obtain ⟨c2, hc2, ho⟩ := bnd ho
  refine r_cut (τ := (Bool)) (G := Unit) (fun t => (.normal, fun _ => ([(6, .val rBool (t))], []))) (t := c2) ?_ ?_
  · have ho := hc2
    clear hc2
    refine r_region ?_
    refine s_move (.n rfl) rfl rfl (.t rfl) ?_
    refine s_move (.n rfl) rfl rfl (.t rfl) ?_
    refine s_cmp (.n rfl) rfl rfl (.t rfl) (.t rfl) .geq ?_
    refine s_move (.n rfl) rfl rfl (.t rfl) ?_
    rcases Bool.eq_false_or_eq_true ((decide (x_0 ≥ low_1))) with hb3 | hb3
    · have ho := cnd1 ho hb3
      refine s_move (.g rfl rfl (gt1 hb3)) rfl rfl (.t rfl) ?_
      refine s_move (.g rfl rfl (gt1 hb3)) rfl rfl (.t rfl) ?_
      refine s_cmp (.g rfl rfl (gt1 hb3)) rfl rfl (.t rfl) (.t rfl) .leq ?_
      refine s_pk1 hb3 (.n rfl) rfl rfl (.t rfl) (.t rfl) ?_
      refine s_assign (.n rfl) rfl rfl (.t rfl) ?_
      cases ho
      exact s_nil (fun fr h s => And.intro rfl (Exists.intro () (s.pick [] ⟨rfl, trivial⟩ rfl (by decide))))
    · have ho := cnd0 ho hb3
      refine s_skip (.g rfl rfl (gt0 hb3)) rfl ?_
      refine s_skip (.g rfl rfl (gt0 hb3)) rfl ?_
      refine s_skip (.g rfl rfl (gt0 hb3)) rfl ?_
      refine s_pk0 hb3 (.n rfl) rfl rfl (.t rfl) .b ?_
      refine s_assign (.n rfl) rfl rfl (.t rfl) ?_
      cases ho
      exact s_nil (fun fr h s => And.intro rfl (Exists.intro () (s.pick [] ⟨rfl, trivial⟩ rfl (by decide))))
  · intro _
    show SRun _ _ _ _ _ _
    cases ho
    exact r_ret (ret_of (.inr rfl) (.v rfl .n) (by decide))
theorem g_ref09_Order_ok {l_0 : (List Int)} {out : (Bool)} (ho : g_ref09_Order l_0 = some out) : Fun ktab 14 [.val (rSlice (rInt .i64)) l_0] [.val rBool (out)] := by
  refine fun_of (F := Try.f14) (by rfl) (by rfl) (by rfl) (fun C hC => ?_)
  delta g_ref09_Order at ho
  refine r_seq ?_
  refine r_region ?_
  refine s_assign (.n rfl) rfl rfl .b ?_
  refine s_nilq rfl ?_
  refine r_seq ?_
  refine r_region ?_
  refine s_move (.n rfl) rfl rfl (.t rfl) ?_
  refine s_len S22 (.n rfl) rfl rfl rfl rfl rfl (.t rfl) ?_
  obtain ⟨x1, hx1, ho⟩ := bnd ho
  refine s_mk S84 Y4 Z4 hx1 (.n rfl) rfl rfl (.t rfl) (.t rfl) ?_
  intro v2
  refine s_assign (.n rfl) rfl rfl (.t rfl) ?_
  refine s_nilq rfl ?_
  refine r_seq ?_
  refine r_seq ?_
  refine r_region ?_
  refine s_assign (.n rfl) rfl rfl (.i (by decide) (by decide)) ?_
  refine s_nilq rfl ?_
  refine r_block ?_
  obtain ⟨t51, ht51, ho⟩ := bnd ho
  refine r_loop (σ := (Int × (List Bool))) (τ := ((List Bool)) ⊕ (Bool × (List Bool))) (G := List AVal) (fun s g => ([(0, .val (rSlice (rInt .i64)) (l_0)), (3, .raw v2), (4, .val (rInt .i64) (s.1))], [(v2, .row rBool (s.2))])) (altX (fun b => (.exit 0, fun g => ([(0, .val (rSlice (rInt .i64)) (l_0))], []))) (fun b => (.ret, fun g => ([(2, .val rBool (b.1))], [])))) _ [] ht51 (fun fr h s => s.pick [0] ⟨rfl, rfl, rfl, trivial⟩ rfl (by decide)) ?_ ?_ ?_
  · intro t
    rcases t with t | t
    · exact (show (.exit 0 : AExit) ≠ .normal from fun e => by cases e)
    · exact (show (.ret : AExit) ≠ .normal from fun e => by cases e)
  · clear ho
    intro s34 g35 r52 ho
    refine r_seq ?_
    refine r_seq ?_
    refine r_region ?_
    refine s_move (.n rfl) rfl rfl (.t rfl) ?_
    refine s_move (.n rfl) rfl rfl (.t rfl) ?_
    refine s_len S22 (.n rfl) rfl rfl rfl rfl rfl (.t rfl) ?_
    refine s_cmp (.n rfl) rfl rfl (.t rfl) (.t rfl) .lss ?_
    refine s_nilq rfl ?_
    refine r_cond (.t rfl) (fun hq36 => ?_) (fun hq36 => ?_)
    · have ho := cnd1 ho hq36
      refine r_skipq rfl ?_
      refine r_seq ?_
      refine r_block ?_
      refine r_seq ?_
      refine r_seq ?_
      refine r_region ?_
      refine s_move (.n rfl) rfl rfl (.t rfl) ?_
      refine s_move (.n rfl) rfl rfl (.t rfl) ?_
      obtain ⟨x42, hx42, ho⟩ := bnd ho
      refine s_idx S22 hx42 (.n rfl) rfl rfl (.t rfl) (.t rfl) ?_
      refine s_load U3 (.n rfl) rfl rfl (.t rfl) ?_
      refine s_move (.n rfl) rfl rfl (.t rfl) ?_
      refine s_len S22 (.n rfl) rfl rfl rfl rfl rfl (.t rfl) ?_
      refine s_ar (.n rfl) rfl rfl (.t rfl) (.i (by decide) (by decide)) .sub ?_
      obtain ⟨y43, hy43, ho⟩ := bnd ho
      refine s_calll (g_ref09_in_ok hy43) (.v flat_bool .n) rfl (.n rfl) rfl rfl rfl .f (.c (.o (.t rfl)) (.c (.o (.i (by decide) (by decide))) (.c (.o (.t rfl)) .n))) ?_
      show SOps _ _ _ _ _ _ _ _
      refine s_not (.n rfl) rfl rfl (.t rfl) ?_
      refine s_move (.n rfl) rfl rfl (.t rfl) ?_
      rcases Bool.eq_false_or_eq_true ((!y43)) with hb44 | hb44
      · have ho := cnd1 ho hb44
        refine s_skip (.g rfl rfl (gf1 hb44)) rfl ?_
        refine s_skip (.g rfl rfl (gf1 hb44)) rfl ?_
        refine s_skip (.g rfl rfl (gf1 hb44)) rfl ?_
        refine s_skip (.g rfl rfl (gf1 hb44)) rfl ?_
        refine s_skip (.g rfl rfl (gf1 hb44)) rfl ?_
        refine s_skip (.g rfl rfl (gf1 hb44)) rfl ?_
        refine s_skip (.g rfl rfl (gf1 hb44)) rfl ?_
        refine s_pk1 hb44 (.n rfl) rfl rfl (.t rfl) .b ?_
        refine s_nilq rfl ?_
        refine r_cond (.t rfl) (fun _ => ?_) (fun hq => by cases hq)
        refine r_seq ?_
        refine r_region ?_
        refine s_assign (.n rfl) rfl rfl .b ?_
        refine s_nilq rfl ?_
        cases ho
        exact r_ret (fun fr h s => And.intro rfl (Exists.intro [] (s.pick [] ⟨rfl, trivial⟩ rfl (by decide))))
      · have ho := cnd0 ho hb44
        refine s_move (.g rfl rfl (gf0 hb44)) rfl rfl (.t rfl) ?_
        refine s_move (.g rfl rfl (gf0 hb44)) rfl rfl (.t rfl) ?_
        refine s_move (.g rfl rfl (gf0 hb44)) rfl rfl (.t rfl) ?_
        obtain ⟨x46, hx46, ho⟩ := bnd ho
        refine s_idx S22 hx46 (.g rfl rfl (gf0 hb44)) rfl rfl (.t rfl) (.t rfl) ?_
        refine s_load U3 (.g rfl rfl (gf0 hb44)) rfl rfl (.t rfl) ?_
        obtain ⟨x47, hx47, ho⟩ := bnd ho
        refine s_idxo 0 S84 hx47 (.g rfl rfl (gf0 hb44)) rfl rfl (.t rfl) rfl (.t rfl) ?_
        refine s_loado 0 (fun _ h => by cases h <;> rfl) U4 FOk.self (idx_inv hx47).2.2.2 (.g rfl rfl (gf0 hb44)) rfl rfl (.t rfl) rfl ?_
        refine s_pk0 hb44 (.n rfl) rfl rfl (.t rfl) (.t rfl) ?_
        refine s_nilq rfl ?_
        refine r_cond (.t rfl) (fun hq48 => ?_) (fun hq48 => ?_)
        · have ho := cnd1 ho hq48
          refine r_seq ?_
          refine r_region ?_
          refine s_assign (.n rfl) rfl rfl .b ?_
          refine s_nilq rfl ?_
          cases ho
          exact r_ret (fun fr h s => And.intro rfl (Exists.intro [] (s.pick [] ⟨rfl, trivial⟩ rfl (by decide))))
        · have ho := cnd0 ho hq48
          refine r_skipq rfl ?_
          refine r_region ?_
          refine s_move (.n rfl) rfl rfl (.t rfl) ?_
          refine s_move (.n rfl) rfl rfl (.t rfl) ?_
          refine s_move (.n rfl) rfl rfl (.t rfl) ?_
          obtain ⟨x49, hx49, ho⟩ := bnd ho
          refine s_idx S22 hx49 (.n rfl) rfl rfl (.t rfl) (.t rfl) ?_
          refine s_load U3 (.n rfl) rfl rfl (.t rfl) ?_
          obtain ⟨x50, hx50, ho⟩ := bnd ho
          refine s_idxo 0 S84 hx50 (.n rfl) rfl rfl (.t rfl) rfl (.t rfl) ?_
          refine s_storeo 0 U4 FOk.self (idx_inv hx50).2.2.2 (.n rfl) rfl rfl (.t rfl) .b rfl rfl ?_
          refine s_nilq rfl ?_
          refine r_region ?_
          refine s_move (.n rfl) rfl rfl (.t rfl) ?_
          refine s_ar (.n rfl) rfl rfl (.t rfl) (.i (by decide) (by decide)) .add ?_
          refine s_assign (.n rfl) rfl rfl (.t rfl) ?_
          cases ho
          exact s_nil (fun fr h s => And.intro rfl (Exists.intro [] (s.pick [0] ⟨rfl, rfl, rfl, trivial⟩ rfl (by decide))))
    · have ho := cnd0 ho hq36
      cases ho
      exact r_exit (fun fr h s => And.intro rfl (Exists.intro [] (s.pick [] ⟨rfl, trivial⟩ rfl (by decide))))
  · clear ht51
    rcases t51 with b53 | b54
    · have ho := alt_l ho
      intro g55
      show ∀ fr h, St _ [(0, .val (rSlice (rInt .i64)) (l_0))] [] fr h → _
      show SRun _ _ _ _ _ _
      refine r_seq ?_
      refine r_region ?_
      refine s_move (.n rfl) rfl rfl (.t rfl) ?_
      refine s_len S22 (.n rfl) rfl rfl rfl rfl rfl (.t rfl) ?_
      refine s_cmp (.n rfl) rfl rfl (.t rfl) (.i (by decide) (by decide)) .leq ?_
      refine s_assign (.n rfl) rfl rfl (.t rfl) ?_
      refine s_nilq rfl ?_
      cases ho
      exact r_ret (ret_of (.inr rfl) (.v rfl .n) (by decide))
    · have ho := alt_r ho
      intro g56
      show ∀ fr h, St _ [(2, .val rBool (b54.1))] [] fr h → _
      cases ho
      exact id (ret_of (.inr rfl) (.v rfl .n) (by decide))
theorem g_ref09_Jobs_ok {l_0 : (List WashJob)} {out : (Bool)} (ho : g_ref09_Jobs l_0 = some out) : Fun ktab 24 [.val (rSlice rWashJob) l_0] [.val rBool (out)] := by
  refine fun_of (F := Try.f24) (by rfl) (by rfl) (by rfl) (fun C hC => ?_)
  delta g_ref09_Jobs at ho
  refine r_seq ?_
  refine r_region ?_
  refine s_assign (.n rfl) rfl rfl .b ?_
  refine s_nilq rfl ?_
  refine r_seq ?_
  refine r_seq ?_
  refine r_region ?_
  refine s_assign (.n rfl) rfl rfl (.i (by decide) (by decide)) ?_
  refine s_nilq rfl ?_
  refine r_block ?_
  obtain ⟨t49, ht49, ho⟩ := bnd ho
  refine r_loop (σ := (Int)) (τ := Unit ⊕ (Bool)) (G := List AVal) (fun s g => ([(0, .val (rSlice rWashJob) (l_0)), (3, .val (rInt .i64) (s))], [])) (altX (fun b => (.exit 0, fun g => ([(0, .val (rSlice rWashJob) (l_0))], []))) (fun b => (.ret, fun g => ([(2, .val rBool (b))], [])))) _ [] ht49 (fun fr h s => s.pick [] ⟨rfl, rfl, trivial⟩ rfl (by decide)) ?_ ?_ ?_
  · intro t
    rcases t with t | t
    · exact (show (.exit 0 : AExit) ≠ .normal from fun e => by cases e)
    · exact (show (.ret : AExit) ≠ .normal from fun e => by cases e)
  · clear ho
    intro s24 g25 r50 ho
    refine r_seq ?_
    refine r_seq ?_
    refine r_region ?_
    refine s_move (.n rfl) rfl rfl (.t rfl) ?_
    refine s_move (.n rfl) rfl rfl (.t rfl) ?_
    refine s_len S49 (.n rfl) rfl rfl rfl rfl rfl (.t rfl) ?_
    refine s_cmp (.n rfl) rfl rfl (.t rfl) (.t rfl) .lss ?_
    refine s_nilq rfl ?_
    refine r_cond (.t rfl) (fun hq26 => ?_) (fun hq26 => ?_)
    · have ho := cnd1 ho hq26
      refine r_skipq rfl ?_
      refine r_seq ?_
      refine r_block ?_
      refine r_seq ?_
      refine r_draw [] (by kernel_rfl) ?_
      refine s_move (.n rfl) rfl rfl (.t rfl) ?_
      refine s_move (.n rfl) rfl rfl (.t rfl) ?_
      obtain ⟨x36, hx36, ho⟩ := bnd ho
      refine s_idx S49 hx36 (.n rfl) rfl rfl (.t rfl) (.t rfl) ?_
      refine s_fa F76_0 fk_WashJob_0 (by decide) (.n rfl) rfl rfl (.t rfl) ?_
      refine s_load U3 (.n rfl) rfl rfl (.t rfl) ?_
      refine s_cmp (.n rfl) rfl rfl (.t rfl) (.i (by decide) (by decide)) .lss ?_
      refine s_move (.n rfl) rfl rfl (.t rfl) ?_
      rcases Bool.eq_false_or_eq_true ((decide (x36.1 < 0))) with hb37 | hb37
      · have ho := cnd1 ho hb37
        refine s_skip (.g rfl rfl (gf1 hb37)) rfl ?_
        refine s_skip (.g rfl rfl (gf1 hb37)) rfl ?_
        refine s_skip (.g rfl rfl (gf1 hb37)) rfl ?_
        refine s_skip (.g rfl rfl (gf1 hb37)) rfl ?_
        refine s_skip (.g rfl rfl (gf1 hb37)) rfl ?_
        refine s_skip (.g rfl rfl (gf1 hb37)) rfl ?_
        refine s_skip (.g rfl rfl (gf1 hb37)) rfl ?_
        refine s_skip (.g rfl rfl (gf1 hb37)) rfl ?_
        refine s_skip (.g rfl rfl (gf1 hb37)) rfl ?_
        refine s_skip (.g rfl rfl (gf1 hb37)) rfl ?_
        refine s_skip (.g rfl rfl (gf1 hb37)) rfl ?_
        refine s_pk1 hb37 (.n rfl) rfl rfl (.t rfl) .b ?_
        refine s_move (.n rfl) rfl rfl (.t rfl) ?_
        refine s_skip (.g rfl rfl rfl) rfl ?_
        refine s_skip (.g rfl rfl rfl) rfl ?_
        refine s_skip (.g rfl rfl rfl) rfl ?_
        refine s_skip (.g rfl rfl rfl) rfl ?_
        refine s_skip (.g rfl rfl rfl) rfl ?_
        refine s_skip (.g rfl rfl rfl) rfl ?_
        refine s_pick1 (.n rfl) rfl rfl (.t rfl) .b ?_
        refine s_move (.n rfl) rfl rfl (.t rfl) ?_
        refine s_skip (.g rfl rfl rfl) rfl ?_
        refine s_skip (.g rfl rfl rfl) rfl ?_
        refine s_skip (.g rfl rfl rfl) rfl ?_
        refine s_skip (.g rfl rfl rfl) rfl ?_
        refine s_skip (.g rfl rfl rfl) rfl ?_
        refine s_skip (.g rfl rfl rfl) rfl ?_
        refine s_skip (.g rfl rfl rfl) rfl ?_
        refine s_pick1 (.n rfl) rfl rfl (.t rfl) .b ?_
        refine s_nilq rfl ?_
        refine r_cond (.t rfl) (fun _ => ?_) (fun hq => by cases hq)
        refine r_seq ?_
        refine r_region ?_
        refine s_assign (.n rfl) rfl rfl .b ?_
        refine s_nilq rfl ?_
        cases ho
        exact r_ret (fun fr h s => And.intro rfl (Exists.intro [] (s.pick [] ⟨rfl, trivial⟩ rfl (by decide))))
      · have ho := cnd0 ho hb37
        refine s_move (.g rfl rfl (gf0 hb37)) rfl rfl (.t rfl) ?_
        refine s_move (.g rfl rfl (gf0 hb37)) rfl rfl (.t rfl) ?_
        obtain ⟨x39, hx39, ho⟩ := bnd ho
        refine s_idx S49 hx39 (.g rfl rfl (gf0 hb37)) rfl rfl (.t rfl) (.t rfl) ?_
        refine s_fa F76_0 fk_WashJob_0 (by decide) (.g rfl rfl (gf0 hb37)) rfl rfl (.t rfl) ?_
        refine s_load U3 (.g rfl rfl (gf0 hb37)) rfl rfl (.t rfl) ?_
        refine s_move (.g rfl rfl (gf0 hb37)) rfl rfl (.t rfl) ?_
        refine s_move (.g rfl rfl (gf0 hb37)) rfl rfl (.t rfl) ?_
        obtain ⟨x40, hx40, ho⟩ := bnd ho
        refine s_idx S49 hx40 (.g rfl rfl (gf0 hb37)) rfl rfl (.t rfl) (.t rfl) ?_
        refine s_fa F76_1 fk_WashJob_1 (by decide) (.g rfl rfl (gf0 hb37)) rfl rfl (.t rfl) ?_
        refine s_load U3 (.g rfl rfl (gf0 hb37)) rfl rfl (.t rfl) ?_
        refine s_cmp (.g rfl rfl (gf0 hb37)) rfl rfl (.t rfl) (.t rfl) .gtr ?_
        refine s_pk0 hb37 (.n rfl) rfl rfl (.t rfl) (.t rfl) ?_
        refine s_move (.n rfl) rfl rfl (.t rfl) ?_
        rcases Bool.eq_false_or_eq_true ((decide (x39.1 > x40.2.1))) with hb41 | hb41
        · have ho := cnd1 ho hb41
          refine s_skip (.g rfl rfl (gf1 hb41)) rfl ?_
          refine s_skip (.g rfl rfl (gf1 hb41)) rfl ?_
          refine s_skip (.g rfl rfl (gf1 hb41)) rfl ?_
          refine s_skip (.g rfl rfl (gf1 hb41)) rfl ?_
          refine s_skip (.g rfl rfl (gf1 hb41)) rfl ?_
          refine s_skip (.g rfl rfl (gf1 hb41)) rfl ?_
          refine s_pk1 hb41 (.n rfl) rfl rfl (.t rfl) .b ?_
          refine s_move (.n rfl) rfl rfl (.t rfl) ?_
          refine s_skip (.g rfl rfl rfl) rfl ?_
          refine s_skip (.g rfl rfl rfl) rfl ?_
          refine s_skip (.g rfl rfl rfl) rfl ?_
          refine s_skip (.g rfl rfl rfl) rfl ?_
          refine s_skip (.g rfl rfl rfl) rfl ?_
          refine s_skip (.g rfl rfl rfl) rfl ?_
          refine s_skip (.g rfl rfl rfl) rfl ?_
          refine s_pick1 (.n rfl) rfl rfl (.t rfl) .b ?_
          refine s_nilq rfl ?_
          refine r_cond (.t rfl) (fun _ => ?_) (fun hq => by cases hq)
          refine r_seq ?_
          refine r_region ?_
          refine s_assign (.n rfl) rfl rfl .b ?_
          refine s_nilq rfl ?_
          cases ho
          exact r_ret (fun fr h s => And.intro rfl (Exists.intro [] (s.pick [] ⟨rfl, trivial⟩ rfl (by decide))))
        · have ho := cnd0 ho hb41
          refine s_move (.g rfl rfl (gf0 hb41)) rfl rfl (.t rfl) ?_
          refine s_move (.g rfl rfl (gf0 hb41)) rfl rfl (.t rfl) ?_
          obtain ⟨x43, hx43, ho⟩ := bnd ho
          refine s_idx S49 hx43 (.g rfl rfl (gf0 hb41)) rfl rfl (.t rfl) (.t rfl) ?_
          refine s_fa F76_1 fk_WashJob_1 (by decide) (.g rfl rfl (gf0 hb41)) rfl rfl (.t rfl) ?_
          refine s_load U3 (.g rfl rfl (gf0 hb41)) rfl rfl (.t rfl) ?_
          refine s_cmp (.g rfl rfl (gf0 hb41)) rfl rfl (.t rfl) (.i (by decide) (by decide)) .gtr ?_
          refine s_pk0 hb41 (.n rfl) rfl rfl (.t rfl) (.t rfl) ?_
          refine s_move (.n rfl) rfl rfl (.t rfl) ?_
          rcases Bool.eq_false_or_eq_true ((decide (x43.2.1 > 200000))) with hb44 | hb44
          · have ho := cnd1 ho hb44
            refine s_skip (.g rfl rfl (gf1 hb44)) rfl ?_
            refine s_skip (.g rfl rfl (gf1 hb44)) rfl ?_
            refine s_skip (.g rfl rfl (gf1 hb44)) rfl ?_
            refine s_skip (.g rfl rfl (gf1 hb44)) rfl ?_
            refine s_skip (.g rfl rfl (gf1 hb44)) rfl ?_
            refine s_skip (.g rfl rfl (gf1 hb44)) rfl ?_
            refine s_skip (.g rfl rfl (gf1 hb44)) rfl ?_
            refine s_pk1 hb44 (.n rfl) rfl rfl (.t rfl) .b ?_
            refine s_nilq rfl ?_
            refine r_cond (.t rfl) (fun _ => ?_) (fun hq => by cases hq)
            refine r_seq ?_
            refine r_region ?_
            refine s_assign (.n rfl) rfl rfl .b ?_
            refine s_nilq rfl ?_
            cases ho
            exact r_ret (fun fr h s => And.intro rfl (Exists.intro [] (s.pick [] ⟨rfl, trivial⟩ rfl (by decide))))
          · have ho := cnd0 ho hb44
            refine s_move (.g rfl rfl (gf0 hb44)) rfl rfl (.t rfl) ?_
            refine s_move (.g rfl rfl (gf0 hb44)) rfl rfl (.t rfl) ?_
            obtain ⟨x46, hx46, ho⟩ := bnd ho
            refine s_idx S49 hx46 (.g rfl rfl (gf0 hb44)) rfl rfl (.t rfl) (.t rfl) ?_
            refine s_fa F76_2 fk_WashJob_2 (by decide) (.g rfl rfl (gf0 hb44)) rfl rfl (.t rfl) ?_
            refine s_load U3 (.g rfl rfl (gf0 hb44)) rfl rfl (.t rfl) ?_
            obtain ⟨y47, hy47, ho⟩ := bnd ho
            refine s_calll (g_ref09_in_ok hy47) (.v flat_bool .n) rfl (.g rfl rfl (gf0 hb44)) rfl rfl rfl .f (.c (.o (.t rfl)) (.c (.o (.i (by decide) (by decide))) (.c (.o (.i (by decide) (by decide))) .n))) ?_
            show SOps _ _ _ _ _ _ _ _
            refine s_not (.g rfl rfl (gf0 hb44)) rfl rfl (.t rfl) ?_
            refine s_pk0 hb44 (.n rfl) rfl rfl (.t rfl) (.t rfl) ?_
            refine s_nilq rfl ?_
            refine r_cond (.t rfl) (fun hq48 => ?_) (fun hq48 => ?_)
            · have ho := cnd1 ho hq48
              refine r_seq ?_
              refine r_region ?_
              refine s_assign (.n rfl) rfl rfl .b ?_
              refine s_nilq rfl ?_
              cases ho
              exact r_ret (fun fr h s => And.intro rfl (Exists.intro [] (s.pick [] ⟨rfl, trivial⟩ rfl (by decide))))
            · have ho := cnd0 ho hq48
              refine r_skipq rfl ?_
              refine r_region ?_
              refine s_move (.n rfl) rfl rfl (.t rfl) ?_
              refine s_ar (.n rfl) rfl rfl (.t rfl) (.i (by decide) (by decide)) .add ?_
              refine s_assign (.n rfl) rfl rfl (.t rfl) ?_
              cases ho
              exact s_nil (fun fr h s => And.intro rfl (Exists.intro [] (s.pick [] ⟨rfl, rfl, trivial⟩ rfl (by decide))))
    · have ho := cnd0 ho hq26
      cases ho
      exact r_exit (fun fr h s => And.intro rfl (Exists.intro [] (s.pick [] ⟨rfl, trivial⟩ rfl (by decide))))
  · clear ht49
    rcases t49 with b51 | b52
    · have ho := alt_l ho
      intro g53
      show ∀ fr h, St _ [(0, .val (rSlice rWashJob) (l_0))] [] fr h → _
      show SRun _ _ _ _ _ _
      refine r_seq ?_
      refine r_region ?_
      refine s_move (.n rfl) rfl rfl (.t rfl) ?_
      refine s_len S49 (.n rfl) rfl rfl rfl rfl rfl (.t rfl) ?_
      refine s_cmp (.n rfl) rfl rfl (.t rfl) (.i (by decide) (by decide)) .leq ?_
      refine s_assign (.n rfl) rfl rfl (.t rfl) ?_
      refine s_nilq rfl ?_
      cases ho
      exact r_ret (ret_of (.inr rfl) (.v rfl .n) (by decide))
    · have ho := alt_r ho
      intro g54
      show ∀ fr h, St _ [(2, .val rBool (b52))] [] fr h → _
      cases ho
      exact id (ret_of (.inr rfl) (.v rfl .n) (by decide))
theorem g_ref09_Late_ok {l_0 : (List WashJob)} {order_1 : (List Int)} {out : (Int × Int)} (ho : g_ref09_Late l_0 order_1 = some out) : Fun ktab 27 [.val (rSlice rWashJob) l_0, .val (rSlice (rInt .i64)) order_1] [.val (rInt .i64) (out.1), .val (rInt .i64) (out.2)] := by
  refine fun_of (F := Try.f27) (by rfl) (by rfl) (by rfl) (fun C hC => ?_)
  delta g_ref09_Late at ho
  refine r_seq ?_
  refine r_region ?_
  refine s_assign (.n rfl) rfl rfl (.i (by decide) (by decide)) ?_
  refine s_assign (.n rfl) rfl rfl (.i (by decide) (by decide)) ?_
  refine s_nilq rfl ?_
  refine r_seq ?_
  refine r_region ?_
  refine s_assign (.n rfl) rfl rfl (.i (by decide) (by decide)) ?_
  refine s_assign (.n rfl) rfl rfl (.i (by decide) (by decide)) ?_
  refine s_nilq rfl ?_
  refine r_seq ?_
  refine r_seq ?_
  refine r_region ?_
  refine s_assign (.n rfl) rfl rfl (.i (by decide) (by decide)) ?_
  refine s_nilq rfl ?_
  refine r_block ?_
  obtain ⟨t13, ht13, ho⟩ := bnd ho
  refine r_loop (σ := (Int × Int × Int)) (τ := (Int × Int)) (G := List AVal) (fun s g => ([(0, .val (rSlice rWashJob) (l_0)), (1, .val (rSlice (rInt .i64)) (order_1)), (6, .val (rInt .i64) (s.1)), (7, .val (rInt .i64) (s.2.1)), (8, .val (rInt .i64) (s.2.2))], [])) (fun b => (.exit 0, fun g => ([(6, .val (rInt .i64) (b.1)), (7, .val (rInt .i64) (b.2))], []))) _ [] ht13 (fun fr h s => s.pick [] ⟨rfl, rfl, rfl, rfl, rfl, trivial⟩ rfl (by decide)) ?_ ?_ ?_
  · intro t
    exact (show (.exit 0 : AExit) ≠ .normal from fun e => by cases e)
  · clear ho
    intro s6 g7 r14 ho
    refine r_seq ?_
    refine r_seq ?_
    refine r_region ?_
    refine s_move (.n rfl) rfl rfl (.t rfl) ?_
    refine s_move (.n rfl) rfl rfl (.t rfl) ?_
    refine s_len S22 (.n rfl) rfl rfl rfl rfl rfl (.t rfl) ?_
    refine s_cmp (.n rfl) rfl rfl (.t rfl) (.t rfl) .lss ?_
    refine s_nilq rfl ?_
    refine r_cond (.t rfl) (fun hq8 => ?_) (fun hq8 => ?_)
    · have ho := cnd1 ho hq8
      refine r_skipq rfl ?_
      refine r_seq ?_
      refine r_block ?_
      refine r_seq ?_
      refine r_region ?_
      refine s_move (.n rfl) rfl rfl (.t rfl) ?_
      refine s_move (.n rfl) rfl rfl (.t rfl) ?_
      refine s_move (.n rfl) rfl rfl (.t rfl) ?_
      obtain ⟨x9, hx9, ho⟩ := bnd ho
      refine s_idx S22 hx9 (.n rfl) rfl rfl (.t rfl) (.t rfl) ?_
      refine s_load U3 (.n rfl) rfl rfl (.t rfl) ?_
      obtain ⟨x10, hx10, ho⟩ := bnd ho
      refine s_idx S49 hx10 (.n rfl) rfl rfl (.t rfl) (.t rfl) ?_
      refine s_load U76 (.n rfl) rfl rfl (.t rfl) ?_
      refine s_alloc (zv := .agg [.int .i64 0, .int .i64 0, .int .i64 0]) (es := [.val (rInt .i64) (0), .val (rInt .i64) (0), .val (rInt .i64) (0)]) (by kernel_rfl) (fun _ => (okint (okint (okint okn)))) rfl (.n rfl) rfl rfl ?_
      intro b11
      refine s_storebs 0 U76 rfl (cells_pair (cells_one rfl) (cells_pair (cells_one rfl) (cells_pair (cells_one rfl) cells_unit rfl) rfl) rfl) (by rfl) (.n rfl) rfl rfl (.t rfl) (.t rfl) (by rfl) ?_
      refine s_st (st_freezeb (R := rWashJob) (a := x10) 0 [9] (cells_pair (cells_one rfl) (cells_pair (cells_one rfl) (cells_pair (cells_one rfl) cells_unit rfl) rfl) rfl) rfl rfl ⟨rfl, trivial⟩) ?_
      refine s_nilq rfl ?_
      refine r_seq ?_
      refine r_region ?_
      refine s_move (.n rfl) rfl rfl (.t rfl) ?_
      refine s_fa F76_0 fk_WashJob_0 (by decide) (.n rfl) rfl rfl (.t rfl) ?_
      refine s_load U3 (.n rfl) rfl rfl (.t rfl) ?_
      refine s_max (.n rfl) rfl rfl rfl rfl (.t rfl) (.t rfl) ?_
      refine s_fa F76_2 fk_WashJob_2 (by decide) (.n rfl) rfl rfl (.t rfl) ?_
      refine s_load U3 (.n rfl) rfl rfl (.t rfl) ?_
      refine s_ar (.n rfl) rfl rfl (.t rfl) (.t rfl) .add ?_
      refine s_assign (.n rfl) rfl rfl (.t rfl) ?_
      refine s_nilq rfl ?_
      refine r_region ?_
      refine s_move (.n rfl) rfl rfl (.t rfl) ?_
      refine s_move (.n rfl) rfl rfl (.t rfl) ?_
      refine s_fa F76_1 fk_WashJob_1 (by decide) (.n rfl) rfl rfl (.t rfl) ?_
      refine s_load U3 (.n rfl) rfl rfl (.t rfl) ?_
      refine s_ar (.n rfl) rfl rfl (.t rfl) (.t rfl) .sub ?_
      refine s_max (.n rfl) rfl rfl rfl rfl (.t rfl) (.t rfl) ?_
      refine s_assign (.n rfl) rfl rfl (.t rfl) ?_
      refine s_nilq rfl ?_
      refine r_region ?_
      refine s_move (.n rfl) rfl rfl (.t rfl) ?_
      refine s_ar (.n rfl) rfl rfl (.t rfl) (.i (by decide) (by decide)) .add ?_
      refine s_assign (.n rfl) rfl rfl (.t rfl) ?_
      cases ho
      exact s_nil (fun fr h s => And.intro rfl (Exists.intro [] (s.pick [] ⟨rfl, rfl, rfl, rfl, rfl, trivial⟩ rfl (by decide))))
    · have ho := cnd0 ho hq8
      cases ho
      exact r_exit (fun fr h s => And.intro rfl (Exists.intro [] (s.pick [] ⟨rfl, rfl, trivial⟩ rfl (by decide))))
  · intro g15
    show ∀ fr h, St _ [(6, .val (rInt .i64) (t13.1)), (7, .val (rInt .i64) (t13.2))] [] fr h → _
    show SRun _ _ _ _ _ _
    refine r_seq ?_
    refine r_region ?_
    refine s_move (.n rfl) rfl rfl (.t rfl) ?_
    refine s_move (.n rfl) rfl rfl (.t rfl) ?_
    refine s_assign (.n rfl) rfl rfl (.t rfl) ?_
    refine s_assign (.n rfl) rfl rfl (.t rfl) ?_
    refine s_nilq rfl ?_
    cases ho
    exact r_ret (ret_of (.inr rfl) (.v rfl (.v rfl .n)) (by decide))
theorem g_depot_Late_ok {l_0 : (List WashJob)} {order_1 : (List Int)} {out : (Int × Int × Int)} (ho : g_depot_Late l_0 order_1 = some out) : Fun ktab 26 [.val (rSlice rWashJob) l_0, .val (rSlice (rInt .i64)) order_1] [.val (rInt .i64) (out.1), .val (rInt .i64) (out.2.1), .val (rInt .i64) (out.2.2)] := by
  refine fun_of (F := Try.f26) (by rfl) (by rfl) (by rfl) (fun C hC => ?_)
  delta g_depot_Late at ho
  refine r_seq ?_
  refine r_region ?_
  refine s_assign (.n rfl) rfl rfl (.i (by decide) (by decide)) ?_
  refine s_assign (.n rfl) rfl rfl (.i (by decide) (by decide)) ?_
  refine s_assign (.n rfl) rfl rfl (.i (by decide) (by decide)) ?_
  refine s_nilq rfl ?_
  refine r_seq ?_
  refine r_seq ?_
  obtain ⟨c5, hc5, ho⟩ := bnd ho
  refine r_cut (τ := (Bool)) (G := Unit) (fun t => (.normal, fun _ => ([(0, .val (rSlice rWashJob) (l_0)), (1, .val (rSlice (rInt .i64)) (order_1)), (22, .val rBool (t))], []))) (t := c5) ?_ ?_
  · have ho := hc5
    clear hc5
    refine r_region ?_
    refine s_move (.n rfl) rfl rfl (.t rfl) ?_
    obtain ⟨y6, hy6, ho⟩ := bnd ho
    refine s_calll (g_depot_jobs_ok hy6) (.v flat_bool .n) rfl (.n rfl) rfl rfl rfl .f (.c (.o (.t rfl)) .n) ?_
    show SOps _ _ _ _ _ _ _ _
    refine s_not (.n rfl) rfl rfl (.t rfl) ?_
    refine s_move (.n rfl) rfl rfl (.t rfl) ?_
    rcases Bool.eq_false_or_eq_true ((!y6)) with hb7 | hb7
    · have ho := cnd1 ho hb7
      refine s_skip (.g rfl rfl (gf1 hb7)) rfl ?_
      refine s_skip (.g rfl rfl (gf1 hb7)) rfl ?_
      refine s_skip (.g rfl rfl (gf1 hb7)) rfl ?_
      refine s_skip (.g rfl rfl (gf1 hb7)) rfl ?_
      refine s_skip (.g rfl rfl (gf1 hb7)) rfl ?_
      refine s_pk1 hb7 (.n rfl) rfl rfl (.t rfl) .b ?_
      refine s_move (.n rfl) rfl rfl (.t rfl) ?_
      refine s_skip (.g rfl rfl rfl) rfl ?_
      refine s_skip (.g rfl rfl rfl) rfl ?_
      refine s_skip (.g rfl rfl rfl) rfl ?_
      refine s_pick1 (.n rfl) rfl rfl (.t rfl) .b ?_
      cases ho
      exact s_nil (fun fr h s => And.intro rfl (Exists.intro () (s.pick [] ⟨rfl, rfl, rfl, trivial⟩ rfl (by decide))))
    · have ho := cnd0 ho hb7
      refine s_move (.g rfl rfl (gf0 hb7)) rfl rfl (.t rfl) ?_
      refine s_len S22 (.g rfl rfl (gf0 hb7)) rfl rfl rfl rfl rfl (.t rfl) ?_
      refine s_move (.g rfl rfl (gf0 hb7)) rfl rfl (.t rfl) ?_
      refine s_len S49 (.g rfl rfl (gf0 hb7)) rfl rfl rfl rfl rfl (.t rfl) ?_
      refine s_cmp (.g rfl rfl (gf0 hb7)) rfl rfl (.t rfl) (.t rfl) .neq ?_
      refine s_pk0 hb7 (.n rfl) rfl rfl (.t rfl) (.t rfl) ?_
      refine s_move (.n rfl) rfl rfl (.t rfl) ?_
      rcases Bool.eq_false_or_eq_true (((lenI order_1) != (lenI l_0))) with hb8 | hb8
      · have ho := cnd1 ho hb8
        refine s_skip (.g rfl rfl (gf1 hb8)) rfl ?_
        refine s_skip (.g rfl rfl (gf1 hb8)) rfl ?_
        refine s_skip (.g rfl rfl (gf1 hb8)) rfl ?_
        refine s_pk1 hb8 (.n rfl) rfl rfl (.t rfl) .b ?_
        cases ho
        exact s_nil (fun fr h s => And.intro rfl (Exists.intro () (s.pick [] ⟨rfl, rfl, rfl, trivial⟩ rfl (by decide))))
      · have ho := cnd0 ho hb8
        refine s_move (.g rfl rfl (gf0 hb8)) rfl rfl (.t rfl) ?_
        obtain ⟨y9, hy9, ho⟩ := bnd ho
        refine s_calll (g_depot_permutation_ok hy9) (.v flat_bool .n) rfl (.g rfl rfl (gf0 hb8)) rfl rfl rfl .f (.c (.o (.t rfl)) .n) ?_
        show SOps _ _ _ _ _ _ _ _
        refine s_not (.g rfl rfl (gf0 hb8)) rfl rfl (.t rfl) ?_
        refine s_pk0 hb8 (.n rfl) rfl rfl (.t rfl) (.t rfl) ?_
        cases ho
        exact s_nil (fun fr h s => And.intro rfl (Exists.intro () (s.pick [] ⟨rfl, rfl, rfl, trivial⟩ rfl (by decide))))
  · intro _
    show SRun _ _ _ _ _ _
    refine r_cond (.t rfl) (fun hq10 => ?_) (fun hq10 => ?_)
    · have ho := cnd1 ho hq10
      refine r_seq ?_
      refine r_region ?_
      refine s_assign (.n rfl) rfl rfl (.i (by decide) (by decide)) ?_
      refine s_assign (.n rfl) rfl rfl (.i (by decide) (by decide)) ?_
      refine s_assign (.n rfl) rfl rfl (.i (by decide) (by decide)) ?_
      refine s_nilq rfl ?_
      cases ho
      exact r_ret (ret_of (.inr rfl) (.v rfl (.v rfl (.v rfl .n))) (by decide))
    · have ho := cnd0 ho hq10
      refine r_skipq rfl ?_
      refine r_seq ?_
      refine r_region ?_
      refine s_move (.n rfl) rfl rfl (.t rfl) ?_
      refine s_move (.n rfl) rfl rfl (.t rfl) ?_
      obtain ⟨y11, hy11, ho⟩ := bnd ho
      refine s_call (pre := []) (post := []) (vs := []) (g_depot_washed_ok hy11) rfl (.n rfl) rfl rfl rfl .f (.c (.t rfl) (.c (.t rfl) .n)) ?_
      show SOps _ _ _ _ _ _ _ _
      refine s_alloc (zv := .agg [.nilslice, .int .i64 0, .int .i64 0]) (es := [.val (rSlice (rInt .i64)) ([]), .val (rInt .i64) (0), .val (rInt .i64) (0)]) (by kernel_rfl) (fun _ => (oknil (okint (okint okn)))) rfl (.n rfl) rfl rfl ?_
      intro b12
      refine s_storebs 0 U102 rfl (cells_pair (cells_one rfl) (cells_pair (cells_one rfl) (cells_pair (cells_one rfl) cells_unit rfl) rfl) rfl) (by rfl) (.n rfl) rfl rfl (.t rfl) (.t rfl) (by rfl) ?_
      refine s_st (st_freezeb (R := rdepot_wash) (a := y11) 0 [7] (cells_pair (cells_one rfl) (cells_pair (cells_one rfl) (cells_pair (cells_one rfl) cells_unit rfl) rfl) rfl) rfl rfl ⟨rfl, trivial⟩) ?_
      refine s_nilq rfl ?_
      refine r_seq ?_
      refine r_draw [] (by kernel_rfl) ?_
      refine s_fa F102_1 fk_depot_wash_1 (by decide) (.n rfl) rfl rfl (.t rfl) ?_
      refine s_load U3 (.n rfl) rfl rfl (.t rfl) ?_
      refine s_fa F102_2 fk_depot_wash_2 (by decide) (.n rfl) rfl rfl (.t rfl) ?_
      refine s_load U3 (.n rfl) rfl rfl (.t rfl) ?_
      refine s_assign (.n rfl) rfl rfl (.t rfl) ?_
      refine s_assign (.n rfl) rfl rfl (.t rfl) ?_
      refine s_assign (.n rfl) rfl rfl (.i (by decide) (by decide)) ?_
      refine s_nilq rfl ?_
      cases ho
      exact r_ret (ret_of (.inr rfl) (.v rfl (.v rfl (.v rfl .n))) (by decide))
theorem g_law09_DepotLate_ok {p_0 : (List WashJob)} {p_1 : (List Int)} {out : (Bool)} (ho : g_law09_DepotLate p_0 p_1 = some out) : Fun ktab 7 [.val (rSlice rWashJob) p_0, .val (rSlice (rInt .i64)) p_1] [.val rBool (out)] := by
  refine fun_of (F := Try.f7) (by rfl) (by rfl) (by rfl) (fun C hC => ?_)
  delta g_law09_DepotLate at ho
  refine r_seq ?_
  refine r_region ?_
  refine s_assign (.n rfl) rfl rfl .b ?_
  refine s_nilq rfl ?_
  refine r_seq ?_
  refine r_seq ?_
  obtain ⟨c2, hc2, ho⟩ := bnd ho
  refine r_cut (τ := (Bool)) (G := Unit) (fun t => (.normal, fun _ => ([(0, .val (rSlice rWashJob) (p_0)), (1, .val (rSlice (rInt .i64)) (p_1)), (23, .val rBool (t))], []))) (t := c2) ?_ ?_
  · have ho := hc2
    clear hc2
    refine r_region ?_
    refine s_move (.n rfl) rfl rfl (.t rfl) ?_
    refine s_len S49 (.n rfl) rfl rfl rfl rfl rfl (.t rfl) ?_
    refine s_cmp (.n rfl) rfl rfl (.t rfl) (.i (by decide) (by decide)) .gtr ?_
    refine s_move (.n rfl) rfl rfl (.t rfl) ?_
    rcases Bool.eq_false_or_eq_true ((decide ((lenI p_0) > 12))) with hb3 | hb3
    · have ho := cnd1 ho hb3
      refine s_skip (.g rfl rfl (gf1 hb3)) rfl ?_
      refine s_skip (.g rfl rfl (gf1 hb3)) rfl ?_
      refine s_skip (.g rfl rfl (gf1 hb3)) rfl ?_
      refine s_pk1 hb3 (.n rfl) rfl rfl (.t rfl) .b ?_
      cases ho
      exact s_nil (fun fr h s => And.intro rfl (Exists.intro () (s.pick [] ⟨rfl, rfl, rfl, trivial⟩ rfl (by decide))))
    · have ho := cnd0 ho hb3
      refine s_move (.g rfl rfl (gf0 hb3)) rfl rfl (.t rfl) ?_
      refine s_len S22 (.g rfl rfl (gf0 hb3)) rfl rfl rfl rfl rfl (.t rfl) ?_
      refine s_cmp (.g rfl rfl (gf0 hb3)) rfl rfl (.t rfl) (.i (by decide) (by decide)) .gtr ?_
      refine s_pk0 hb3 (.n rfl) rfl rfl (.t rfl) (.t rfl) ?_
      cases ho
      exact s_nil (fun fr h s => And.intro rfl (Exists.intro () (s.pick [] ⟨rfl, rfl, rfl, trivial⟩ rfl (by decide))))
  · intro _
    show SRun _ _ _ _ _ _
    refine r_cond (.t rfl) (fun hq4 => ?_) (fun hq4 => ?_)
    · have ho := cnd1 ho hq4
      refine r_seq ?_
      refine r_region ?_
      refine s_const (v := .bool true) (e := .val rBool true) rfl known_te (.n rfl) rfl rfl rfl .f rfl ?_
      refine s_assign (.n rfl) rfl rfl (.t rfl) ?_
      refine s_nilq rfl ?_
      cases ho
      exact r_ret (ret_of (.inr rfl) (.v rfl .n) (by decide))
    · have ho := cnd0 ho hq4
      refine r_skipq rfl ?_
      refine r_seq ?_
      refine r_region ?_
      refine s_move (.n rfl) rfl rfl (.t rfl) ?_
      refine s_move (.n rfl) rfl rfl (.t rfl) ?_
      obtain ⟨y5, hy5, ho⟩ := bnd ho
      refine s_calll (g_depot_Late_ok hy5) (.v flat_int (.v flat_int (.v flat_int .n))) rfl (.n rfl) rfl rfl rfl .f (.c (.o (.t rfl)) (.c (.o (.t rfl)) .n)) ?_
      show SOps _ _ _ _ _ _ _ _
      refine s_move (.n rfl) rfl rfl (.t rfl) ?_
      refine s_ext rfl (.n rfl) rfl rfl (.t rfl) ?_
      refine s_ext rfl (.n rfl) rfl rfl (.t rfl) ?_
      refine s_ext rfl (.n rfl) rfl rfl (.t rfl) ?_
      refine s_assign (.n rfl) rfl rfl (.t rfl) ?_
      refine s_assign (.n rfl) rfl rfl (.t rfl) ?_
      refine s_assign (.n rfl) rfl rfl (.t rfl) ?_
      refine s_nilq rfl ?_
      refine r_seq ?_
      refine r_seq ?_
      obtain ⟨c10, hc10, ho⟩ := bnd ho
      refine r_cut (τ := (Bool)) (G := Unit) (fun t => (.normal, fun _ => ([(0, .val (rSlice rWashJob) (p_0)), (1, .val (rSlice (rInt .i64)) (p_1)), (5, .val (rInt .i64) (y5.1)), (6, .val (rInt .i64) (y5.2.1)), (7, .val (rInt .i64) (y5.2.2)), (46, .val rBool (t))], []))) (t := c10) ?_ ?_
      · have ho := hc10
        clear hc10
        refine r_region ?_
        refine s_move (.n rfl) rfl rfl (.t rfl) ?_
        obtain ⟨y11, hy11, ho⟩ := bnd ho
        refine s_calll (g_ref09_Jobs_ok hy11) (.v flat_bool .n) rfl (.n rfl) rfl rfl rfl .f (.c (.o (.t rfl)) .n) ?_
        show SOps _ _ _ _ _ _ _ _
        refine s_not (.n rfl) rfl rfl (.t rfl) ?_
        refine s_move (.n rfl) rfl rfl (.t rfl) ?_
        rcases Bool.eq_false_or_eq_true ((!y11)) with hb12 | hb12
        · have ho := cnd1 ho hb12
          refine s_skip (.g rfl rfl (gf1 hb12)) rfl ?_
          refine s_skip (.g rfl rfl (gf1 hb12)) rfl ?_
          refine s_skip (.g rfl rfl (gf1 hb12)) rfl ?_
          refine s_skip (.g rfl rfl (gf1 hb12)) rfl ?_
          refine s_skip (.g rfl rfl (gf1 hb12)) rfl ?_
          refine s_pk1 hb12 (.n rfl) rfl rfl (.t rfl) .b ?_
          refine s_move (.n rfl) rfl rfl (.t rfl) ?_
          refine s_skip (.g rfl rfl rfl) rfl ?_
          refine s_skip (.g rfl rfl rfl) rfl ?_
          refine s_skip (.g rfl rfl rfl) rfl ?_
          refine s_pick1 (.n rfl) rfl rfl (.t rfl) .b ?_
          cases ho
          exact s_nil (fun fr h s => And.intro rfl (Exists.intro () (s.pick [] ⟨rfl, rfl, rfl, rfl, rfl, rfl, trivial⟩ rfl (by decide))))
        · have ho := cnd0 ho hb12
          refine s_move (.g rfl rfl (gf0 hb12)) rfl rfl (.t rfl) ?_
          refine s_len S22 (.g rfl rfl (gf0 hb12)) rfl rfl rfl rfl rfl (.t rfl) ?_
          refine s_move (.g rfl rfl (gf0 hb12)) rfl rfl (.t rfl) ?_
          refine s_len S49 (.g rfl rfl (gf0 hb12)) rfl rfl rfl rfl rfl (.t rfl) ?_
          refine s_cmp (.g rfl rfl (gf0 hb12)) rfl rfl (.t rfl) (.t rfl) .neq ?_
          refine s_pk0 hb12 (.n rfl) rfl rfl (.t rfl) (.t rfl) ?_
          refine s_move (.n rfl) rfl rfl (.t rfl) ?_
          rcases Bool.eq_false_or_eq_true (((lenI p_1) != (lenI p_0))) with hb13 | hb13
          · have ho := cnd1 ho hb13
            refine s_skip (.g rfl rfl (gf1 hb13)) rfl ?_
            refine s_skip (.g rfl rfl (gf1 hb13)) rfl ?_
            refine s_skip (.g rfl rfl (gf1 hb13)) rfl ?_
            refine s_pk1 hb13 (.n rfl) rfl rfl (.t rfl) .b ?_
            cases ho
            exact s_nil (fun fr h s => And.intro rfl (Exists.intro () (s.pick [] ⟨rfl, rfl, rfl, rfl, rfl, rfl, trivial⟩ rfl (by decide))))
          · have ho := cnd0 ho hb13
            refine s_move (.g rfl rfl (gf0 hb13)) rfl rfl (.t rfl) ?_
            obtain ⟨y14, hy14, ho⟩ := bnd ho
            refine s_calll (g_ref09_Order_ok hy14) (.v flat_bool .n) rfl (.g rfl rfl (gf0 hb13)) rfl rfl rfl .f (.c (.o (.t rfl)) .n) ?_
            show SOps _ _ _ _ _ _ _ _
            refine s_not (.g rfl rfl (gf0 hb13)) rfl rfl (.t rfl) ?_
            refine s_pk0 hb13 (.n rfl) rfl rfl (.t rfl) (.t rfl) ?_
            cases ho
            exact s_nil (fun fr h s => And.intro rfl (Exists.intro () (s.pick [] ⟨rfl, rfl, rfl, rfl, rfl, rfl, trivial⟩ rfl (by decide))))
      · intro _
        show SRun _ _ _ _ _ _
        refine r_cond (.t rfl) (fun hq15 => ?_) (fun hq15 => ?_)
        · have ho := cnd1 ho hq15
          refine r_seq ?_
          obtain ⟨c19, hc19, ho⟩ := bnd ho
          refine r_cut (τ := (Bool)) (G := Unit) (fun t => (.normal, fun _ => ([(4, .val rBool (t))], []))) (t := c19) ?_ ?_
          · have ho := hc19
            clear hc19
            refine r_region ?_
            refine s_move (.n rfl) rfl rfl (.t rfl) ?_
            refine s_cmp (.n rfl) rfl rfl (.t rfl) (.i (by decide) (by decide)) .eql ?_
            refine s_move (.n rfl) rfl rfl (.t rfl) ?_
            rcases Bool.eq_false_or_eq_true ((y5.2.2 == 2)) with hb20 | hb20
            · have ho := cnd1 ho hb20
              refine s_move (.g rfl rfl (gt1 hb20)) rfl rfl (.t rfl) ?_
              refine s_cmp (.g rfl rfl (gt1 hb20)) rfl rfl (.t rfl) (.i (by decide) (by decide)) .eql ?_
              refine s_pk1 hb20 (.n rfl) rfl rfl (.t rfl) (.t rfl) ?_
              refine s_move (.n rfl) rfl rfl (.t rfl) ?_
              rcases Bool.eq_false_or_eq_true ((y5.1 == 0)) with hb21 | hb21
              · have ho := cnd1 ho hb21
                refine s_move (.g rfl rfl (gt1 hb21)) rfl rfl (.t rfl) ?_
                refine s_cmp (.g rfl rfl (gt1 hb21)) rfl rfl (.t rfl) (.i (by decide) (by decide)) .eql ?_
                refine s_pk1 hb21 (.n rfl) rfl rfl (.t rfl) (.t rfl) ?_
                refine s_move (.n rfl) rfl rfl (.t rfl) ?_
                rcases Bool.eq_false_or_eq_true ((y5.2.1 == 0)) with hb22 | hb22
                · have ho := cnd1 ho hb22
                  refine s_const (v := .bool true) (e := .val rBool true) rfl known_te (.g rfl rfl (gt1 hb22)) rfl rfl rfl .f rfl ?_
                  refine s_pk1 hb22 (.n rfl) rfl rfl (.t rfl) (.t rfl) ?_
                  refine s_assign (.n rfl) rfl rfl (.t rfl) ?_
                  cases ho
                  exact s_nil (fun fr h s => And.intro rfl (Exists.intro () (s.pick [] ⟨rfl, trivial⟩ rfl (by decide))))
                · have ho := cnd0 ho hb22
                  refine s_skip (.g rfl rfl (gt0 hb22)) rfl ?_
                  refine s_pk0 hb22 (.n rfl) rfl rfl (.t rfl) .b ?_
                  refine s_assign (.n rfl) rfl rfl (.t rfl) ?_
                  cases ho
                  exact s_nil (fun fr h s => And.intro rfl (Exists.intro () (s.pick [] ⟨rfl, trivial⟩ rfl (by decide))))
              · have ho := cnd0 ho hb21
                refine s_skip (.g rfl rfl (gt0 hb21)) rfl ?_
                refine s_skip (.g rfl rfl (gt0 hb21)) rfl ?_
                refine s_pk0 hb21 (.n rfl) rfl rfl (.t rfl) .b ?_
                refine s_move (.n rfl) rfl rfl (.t rfl) ?_
                refine s_skip (.g rfl rfl rfl) rfl ?_
                refine s_pick0 (.n rfl) rfl rfl (.t rfl) .b ?_
                refine s_assign (.n rfl) rfl rfl (.t rfl) ?_
                cases ho
                exact s_nil (fun fr h s => And.intro rfl (Exists.intro () (s.pick [] ⟨rfl, trivial⟩ rfl (by decide))))
            · have ho := cnd0 ho hb20
              refine s_skip (.g rfl rfl (gt0 hb20)) rfl ?_
              refine s_skip (.g rfl rfl (gt0 hb20)) rfl ?_
              refine s_pk0 hb20 (.n rfl) rfl rfl (.t rfl) .b ?_
              refine s_move (.n rfl) rfl rfl (.t rfl) ?_
              refine s_skip (.g rfl rfl rfl) rfl ?_
              refine s_skip (.g rfl rfl rfl) rfl ?_
              refine s_pick0 (.n rfl) rfl rfl (.t rfl) .b ?_
              refine s_move (.n rfl) rfl rfl (.t rfl) ?_
              refine s_skip (.g rfl rfl rfl) rfl ?_
              refine s_pick0 (.n rfl) rfl rfl (.t rfl) .b ?_
              refine s_assign (.n rfl) rfl rfl (.t rfl) ?_
              cases ho
              exact s_nil (fun fr h s => And.intro rfl (Exists.intro () (s.pick [] ⟨rfl, trivial⟩ rfl (by decide))))
          · intro _
            show SRun _ _ _ _ _ _
            cases ho
            exact r_ret (ret_of (.inr rfl) (.v rfl .n) (by decide))
        · have ho := cnd0 ho hq15
          refine r_skipq rfl ?_
          refine r_seq ?_
          refine r_region ?_
          refine s_move (.n rfl) rfl rfl (.t rfl) ?_
          refine s_move (.n rfl) rfl rfl (.t rfl) ?_
          obtain ⟨y23, hy23, ho⟩ := bnd ho
          refine s_calll (g_ref09_Late_ok hy23) (.v flat_int (.v flat_int .n)) rfl (.n rfl) rfl rfl rfl .f (.c (.o (.t rfl)) (.c (.o (.t rfl)) .n)) ?_
          show SOps _ _ _ _ _ _ _ _
          refine s_move (.n rfl) rfl rfl (.t rfl) ?_
          refine s_ext rfl (.n rfl) rfl rfl (.t rfl) ?_
          refine s_ext rfl (.n rfl) rfl rfl (.t rfl) ?_
          refine s_assign (.n rfl) rfl rfl (.t rfl) ?_
          refine s_assign (.n rfl) rfl rfl (.t rfl) ?_
          refine s_nilq rfl ?_
          refine r_seq ?_
          refine r_seq ?_
          obtain ⟨c26, hc26, ho⟩ := bnd ho
          refine r_cut (τ := (Bool)) (G := Unit) (fun t => (.normal, fun _ => ([(0, .val (rSlice rWashJob) (p_0)), (5, .val (rInt .i64) (y5.1)), (6, .val (rInt .i64) (y5.2.1)), (77, .val rBool (t))], []))) (t := c26) ?_ ?_
          · have ho := hc26
            clear hc26
            refine r_region ?_
            refine s_move (.n rfl) rfl rfl (.t rfl) ?_
            refine s_cmp (.n rfl) rfl rfl (.t rfl) (.i (by decide) (by decide)) .neq ?_
            refine s_move (.n rfl) rfl rfl (.t rfl) ?_
            rcases Bool.eq_false_or_eq_true ((y5.2.2 != 0)) with hb27 | hb27
            · have ho := cnd1 ho hb27
              refine s_skip (.g rfl rfl (gf1 hb27)) rfl ?_
              refine s_skip (.g rfl rfl (gf1 hb27)) rfl ?_
              refine s_skip (.g rfl rfl (gf1 hb27)) rfl ?_
              refine s_pk1 hb27 (.n rfl) rfl rfl (.t rfl) .b ?_
              refine s_move (.n rfl) rfl rfl (.t rfl) ?_
              refine s_skip (.g rfl rfl rfl) rfl ?_
              refine s_skip (.g rfl rfl rfl) rfl ?_
              refine s_skip (.g rfl rfl rfl) rfl ?_
              refine s_pick1 (.n rfl) rfl rfl (.t rfl) .b ?_
              cases ho
              exact s_nil (fun fr h s => And.intro rfl (Exists.intro () (s.pick [] ⟨rfl, rfl, rfl, rfl, trivial⟩ rfl (by decide))))
            · have ho := cnd0 ho hb27
              refine s_move (.g rfl rfl (gf0 hb27)) rfl rfl (.t rfl) ?_
              refine s_move (.g rfl rfl (gf0 hb27)) rfl rfl (.t rfl) ?_
              refine s_cmp (.g rfl rfl (gf0 hb27)) rfl rfl (.t rfl) (.t rfl) .neq ?_
              refine s_pk0 hb27 (.n rfl) rfl rfl (.t rfl) (.t rfl) ?_
              refine s_move (.n rfl) rfl rfl (.t rfl) ?_
              rcases Bool.eq_false_or_eq_true ((y5.1 != y23.1)) with hb28 | hb28
              · have ho := cnd1 ho hb28
                refine s_skip (.g rfl rfl (gf1 hb28)) rfl ?_
                refine s_skip (.g rfl rfl (gf1 hb28)) rfl ?_
                refine s_skip (.g rfl rfl (gf1 hb28)) rfl ?_
                refine s_pk1 hb28 (.n rfl) rfl rfl (.t rfl) .b ?_
                cases ho
                exact s_nil (fun fr h s => And.intro rfl (Exists.intro () (s.pick [] ⟨rfl, rfl, rfl, rfl, trivial⟩ rfl (by decide))))
              · have ho := cnd0 ho hb28
                refine s_move (.g rfl rfl (gf0 hb28)) rfl rfl (.t rfl) ?_
                refine s_move (.g rfl rfl (gf0 hb28)) rfl rfl (.t rfl) ?_
                refine s_cmp (.g rfl rfl (gf0 hb28)) rfl rfl (.t rfl) (.t rfl) .neq ?_
                refine s_pk0 hb28 (.n rfl) rfl rfl (.t rfl) (.t rfl) ?_
                cases ho
                exact s_nil (fun fr h s => And.intro rfl (Exists.intro () (s.pick [] ⟨rfl, rfl, rfl, rfl, trivial⟩ rfl (by decide))))
          · intro _
            show SRun _ _ _ _ _ _
            refine r_cond (.t rfl) (fun hq29 => ?_) (fun hq29 => ?_)
            · have ho := cnd1 ho hq29
              refine r_seq ?_
              refine r_region ?_
              refine s_assign (.n rfl) rfl rfl .b ?_
              refine s_nilq rfl ?_
              cases ho
              exact r_ret (ret_of (.inr rfl) (.v rfl .n) (by decide))
            · have ho := cnd0 ho hq29
              refine r_skipq rfl ?_
              refine r_seq ?_
              refine r_region ?_
              refine s_move (.n rfl) rfl rfl (.t rfl) ?_
              obtain ⟨y30, hy30, ho⟩ := bnd ho
              refine s_call (pre := []) (post := []) (vs := []) (g_depot_Wash_ok hy30) rfl (.n rfl) rfl rfl rfl .f (.c (.t rfl) .n) ?_
              show SOps _ _ _ _ _ _ _ _
              refine s_move (.n rfl) rfl rfl (.t rfl) ?_
              refine s_ext rfl (.n rfl) rfl rfl (.t rfl) ?_
              refine s_ext rfl (.n rfl) rfl rfl (.t rfl) ?_
              refine s_ext rfl (.n rfl) rfl rfl (.t rfl) ?_
              refine s_assign (.n rfl) rfl rfl (.t rfl) ?_
              refine s_assign (.n rfl) rfl rfl (.t rfl) ?_
              refine s_assign (.n rfl) rfl rfl (.t rfl) ?_
              refine s_nilq rfl ?_
              refine r_seq ?_
              refine r_region ?_
              refine s_move (.n rfl) rfl rfl (.t rfl) ?_
              refine s_move (.n rfl) rfl rfl (.t rfl) ?_
              obtain ⟨y31, hy31, ho⟩ := bnd ho
              refine s_calll (g_depot_Late_ok hy31) (.v flat_int (.v flat_int (.v flat_int .n))) rfl (.n rfl) rfl rfl rfl .f (.c (.o (.t rfl)) (.c (.o (.t rfl)) .n)) ?_
              show SOps _ _ _ _ _ _ _ _
              refine s_move (.n rfl) rfl rfl (.t rfl) ?_
              refine s_ext rfl (.n rfl) rfl rfl (.t rfl) ?_
              refine s_ext rfl (.n rfl) rfl rfl (.t rfl) ?_
              refine s_ext rfl (.n rfl) rfl rfl (.t rfl) ?_
              refine s_assign (.n rfl) rfl rfl (.t rfl) ?_
              refine s_assign (.n rfl) rfl rfl (.t rfl) ?_
              refine s_assign (.n rfl) rfl rfl (.t rfl) ?_
              refine s_nilq rfl ?_
              refine r_seq ?_
              obtain ⟨c38, hc38, ho⟩ := bnd ho
              refine r_cut (τ := (Bool)) (G := Unit) (fun t => (.normal, fun _ => ([(4, .val rBool (t))], []))) (t := c38) ?_ ?_
              · have ho := hc38
                clear hc38
                refine r_region ?_
                refine s_move (.n rfl) rfl rfl (.t rfl) ?_
                refine s_cmp (.n rfl) rfl rfl (.t rfl) (.i (by decide) (by decide)) .eql ?_
                refine s_move (.n rfl) rfl rfl (.t rfl) ?_
                rcases Bool.eq_false_or_eq_true ((y30.2.2 == 0)) with hb39 | hb39
                · have ho := cnd1 ho hb39
                  refine s_move (.g rfl rfl (gt1 hb39)) rfl rfl (.t rfl) ?_
                  refine s_cmp (.g rfl rfl (gt1 hb39)) rfl rfl (.t rfl) (.i (by decide) (by decide)) .eql ?_
                  refine s_pk1 hb39 (.n rfl) rfl rfl (.t rfl) (.t rfl) ?_
                  refine s_move (.n rfl) rfl rfl (.t rfl) ?_
                  rcases Bool.eq_false_or_eq_true ((y31.2.2 == 0)) with hb40 | hb40
                  · have ho := cnd1 ho hb40
                    refine s_move (.g rfl rfl (gt1 hb40)) rfl rfl (.t rfl) ?_
                    refine s_move (.g rfl rfl (gt1 hb40)) rfl rfl (.t rfl) ?_
                    refine s_cmp (.g rfl rfl (gt1 hb40)) rfl rfl (.t rfl) (.t rfl) .eql ?_
                    refine s_pk1 hb40 (.n rfl) rfl rfl (.t rfl) (.t rfl) ?_
                    refine s_move (.n rfl) rfl rfl (.t rfl) ?_
                    rcases Bool.eq_false_or_eq_true ((y31.1 == y30.2.1)) with hb41 | hb41
                    · have ho := cnd1 ho hb41
                      refine s_move (.g rfl rfl (gt1 hb41)) rfl rfl (.t rfl) ?_
                      refine s_move (.g rfl rfl (gt1 hb41)) rfl rfl (.t rfl) ?_
                      refine s_cmp (.g rfl rfl (gt1 hb41)) rfl rfl (.t rfl) (.t rfl) .lss ?_
                      refine s_move (.g rfl rfl (gt1 hb41)) rfl rfl (.t rfl) ?_
                      rcases Bool.eq_false_or_eq_true ((decide (y30.2.1 < y5.1))) with hb42 | hb42
                      · have ho := cnd1 ho hb42
                        refine s_skip (.g rfl rfl (gf1 hb42)) rfl ?_
                        refine s_skip (.g rfl rfl (gf1 hb42)) rfl ?_
                        refine s_skip (.g rfl rfl (gf1 hb42)) rfl ?_
                        refine s_skip (.g rfl rfl (gf1 hb42)) rfl ?_
                        refine s_skip (.u rfl rfl rfl) rfl ?_
                        refine s_skip (.u rfl rfl rfl) rfl ?_
                        refine s_skip (.u rfl rfl rfl) rfl ?_
                        refine s_skip (.g rfl rfl (gf1 hb42)) rfl ?_
                        refine s_pk1 hb42 (.g rfl rfl (gt1 hb41)) rfl rfl (.t rfl) .b ?_
                        refine s_pk1 hb41 (.n rfl) rfl rfl (.t rfl) (.t rfl) ?_
                        refine s_move (.n rfl) rfl rfl (.t rfl) ?_
                        refine s_const (v := .bool true) (e := .val rBool true) rfl known_te (.g rfl rfl rfl) rfl rfl rfl .f rfl ?_
                        refine s_pick1 (.n rfl) rfl rfl (.t rfl) (.t rfl) ?_
                        refine s_assign (.n rfl) rfl rfl (.t rfl) ?_
                        cases ho
                        exact s_nil (fun fr h s => And.intro rfl (Exists.intro () (s.pick [] ⟨rfl, trivial⟩ rfl (by decide))))
                      · have ho := cnd0 ho hb42
                        refine s_move (.g rfl rfl (gf0 hb42)) rfl rfl (.t rfl) ?_
                        refine s_move (.g rfl rfl (gf0 hb42)) rfl rfl (.t rfl) ?_
                        refine s_cmp (.g rfl rfl (gf0 hb42)) rfl rfl (.t rfl) (.t rfl) .eql ?_
                        refine s_move (.g rfl rfl (gf0 hb42)) rfl rfl (.t rfl) ?_
                        rcases Bool.eq_false_or_eq_true ((y30.2.1 == y5.1)) with hb43 | hb43
                        · have ho := cnd1 ho hb43
                          refine s_move (.g rfl rfl (gt1 hb43)) rfl rfl (.t rfl) ?_
                          refine s_move (.g rfl rfl (gt1 hb43)) rfl rfl (.t rfl) ?_
                          refine s_cmp (.g rfl rfl (gt1 hb43)) rfl rfl (.t rfl) (.t rfl) .leq ?_
                          refine s_pk1 hb43 (.g rfl rfl (gf0 hb42)) rfl rfl (.t rfl) (.t rfl) ?_
                          refine s_pk0 hb42 (.g rfl rfl (gt1 hb41)) rfl rfl (.t rfl) (.t rfl) ?_
                          refine s_pk1 hb41 (.n rfl) rfl rfl (.t rfl) (.t rfl) ?_
                          refine s_move (.n rfl) rfl rfl (.t rfl) ?_
                          rcases Bool.eq_false_or_eq_true ((decide (y31.2.1 ≤ y5.2.1))) with hb44 | hb44
                          · have ho := cnd1 ho hb44
                            refine s_const (v := .bool true) (e := .val rBool true) rfl known_te (.g rfl rfl (gt1 hb44)) rfl rfl rfl .f rfl ?_
                            refine s_pk1 hb44 (.n rfl) rfl rfl (.t rfl) (.t rfl) ?_
                            refine s_assign (.n rfl) rfl rfl (.t rfl) ?_
                            cases ho
                            exact s_nil (fun fr h s => And.intro rfl (Exists.intro () (s.pick [] ⟨rfl, trivial⟩ rfl (by decide))))
                          · have ho := cnd0 ho hb44
                            refine s_skip (.g rfl rfl (gt0 hb44)) rfl ?_
                            refine s_pk0 hb44 (.n rfl) rfl rfl (.t rfl) .b ?_
                            refine s_assign (.n rfl) rfl rfl (.t rfl) ?_
                            cases ho
                            exact s_nil (fun fr h s => And.intro rfl (Exists.intro () (s.pick [] ⟨rfl, trivial⟩ rfl (by decide))))
                        · have ho := cnd0 ho hb43
                          refine s_skip (.g rfl rfl (gt0 hb43)) rfl ?_
                          refine s_skip (.g rfl rfl (gt0 hb43)) rfl ?_
                          refine s_skip (.g rfl rfl (gt0 hb43)) rfl ?_
                          refine s_pk0 hb43 (.g rfl rfl (gf0 hb42)) rfl rfl (.t rfl) .b ?_
                          refine s_pk0 hb42 (.g rfl rfl (gt1 hb41)) rfl rfl (.t rfl) (.t rfl) ?_
                          refine s_pk1 hb41 (.n rfl) rfl rfl (.t rfl) (.t rfl) ?_
                          refine s_move (.n rfl) rfl rfl (.t rfl) ?_
                          refine s_skip (.g rfl rfl rfl) rfl ?_
                          refine s_pick0 (.n rfl) rfl rfl (.t rfl) .b ?_
                          refine s_assign (.n rfl) rfl rfl (.t rfl) ?_
                          cases ho
                          exact s_nil (fun fr h s => And.intro rfl (Exists.intro () (s.pick [] ⟨rfl, trivial⟩ rfl (by decide))))
                    · have ho := cnd0 ho hb41
                      refine s_skip (.g rfl rfl (gt0 hb41)) rfl ?_
                      refine s_skip (.g rfl rfl (gt0 hb41)) rfl ?_
                      refine s_skip (.g rfl rfl (gt0 hb41)) rfl ?_
                      refine s_skip (.g rfl rfl (gt0 hb41)) rfl ?_
                      refine s_skip (.u rfl rfl rfl) rfl ?_
                      refine s_skip (.u rfl rfl rfl) rfl ?_
                      refine s_skip (.u rfl rfl rfl) rfl ?_
                      refine s_skip (.u rfl rfl rfl) rfl ?_
                      refine s_skip (.u rfl rfl rfl) rfl ?_
                      refine s_skip (.u rfl rfl rfl) rfl ?_
                      refine s_skip (.u rfl rfl rfl) rfl ?_
                      refine s_skip (.u rfl rfl rfl) rfl ?_
                      refine s_skip (.g rfl rfl (gt0 hb41)) rfl ?_
                      refine s_pk0 hb41 (.n rfl) rfl rfl (.t rfl) .b ?_
                      refine s_move (.n rfl) rfl rfl (.t rfl) ?_
                      refine s_skip (.g rfl rfl rfl) rfl ?_
                      refine s_pick0 (.n rfl) rfl rfl (.t rfl) .b ?_
                      refine s_assign (.n rfl) rfl rfl (.t rfl) ?_
                      cases ho
                      exact s_nil (fun fr h s => And.intro rfl (Exists.intro () (s.pick [] ⟨rfl, trivial⟩ rfl (by decide))))
                  · have ho := cnd0 ho hb40
                    refine s_skip (.g rfl rfl (gt0 hb40)) rfl ?_
                    refine s_skip (.g rfl rfl (gt0 hb40)) rfl ?_
                    refine s_skip (.g rfl rfl (gt0 hb40)) rfl ?_
                    refine s_pk0 hb40 (.n rfl) rfl rfl (.t rfl) .b ?_
                    refine s_move (.n rfl) rfl rfl (.t rfl) ?_
                    refine s_skip (.g rfl rfl rfl) rfl ?_
                    refine s_skip (.g rfl rfl rfl) rfl ?_
                    refine s_skip (.g rfl rfl rfl) rfl ?_
                    refine s_skip (.g rfl rfl rfl) rfl ?_
                    refine s_skip (.u rfl rfl rfl) rfl ?_
                    refine s_skip (.u rfl rfl rfl) rfl ?_
                    refine s_skip (.u rfl rfl rfl) rfl ?_
                    refine s_skip (.u rfl rfl rfl) rfl ?_
                    refine s_skip (.u rfl rfl rfl) rfl ?_
                    refine s_skip (.u rfl rfl rfl) rfl ?_
                    refine s_skip (.u rfl rfl rfl) rfl ?_
                    refine s_skip (.u rfl rfl rfl) rfl ?_
                    refine s_skip (.g rfl rfl rfl) rfl ?_
                    refine s_pick0 (.n rfl) rfl rfl (.t rfl) .b ?_
                    refine s_move (.n rfl) rfl rfl (.t rfl) ?_
                    refine s_skip (.g rfl rfl rfl) rfl ?_
                    refine s_pick0 (.n rfl) rfl rfl (.t rfl) .b ?_
                    refine s_assign (.n rfl) rfl rfl (.t rfl) ?_
                    cases ho
                    exact s_nil (fun fr h s => And.intro rfl (Exists.intro () (s.pick [] ⟨rfl, trivial⟩ rfl (by decide))))
                · have ho := cnd0 ho hb39
                  refine s_skip (.g rfl rfl (gt0 hb39)) rfl ?_
                  refine s_skip (.g rfl rfl (gt0 hb39)) rfl ?_
                  refine s_pk0 hb39 (.n rfl) rfl rfl (.t rfl) .b ?_
                  refine s_move (.n rfl) rfl rfl (.t rfl) ?_
                  refine s_skip (.g rfl rfl rfl) rfl ?_
                  refine s_skip (.g rfl rfl rfl) rfl ?_
                  refine s_skip (.g rfl rfl rfl) rfl ?_
                  refine s_pick0 (.n rfl) rfl rfl (.t rfl) .b ?_
                  refine s_move (.n rfl) rfl rfl (.t rfl) ?_
                  refine s_skip (.g rfl rfl rfl) rfl ?_
                  refine s_skip (.g rfl rfl rfl) rfl ?_
                  refine s_skip (.g rfl rfl rfl) rfl ?_
                  refine s_skip (.g rfl rfl rfl) rfl ?_
                  refine s_skip (.u rfl rfl rfl) rfl ?_
                  refine s_skip (.u rfl rfl rfl) rfl ?_
                  refine s_skip (.u rfl rfl rfl) rfl ?_
                  refine s_skip (.u rfl rfl rfl) rfl ?_
                  refine s_skip (.u rfl rfl rfl) rfl ?_
                  refine s_skip (.u rfl rfl rfl) rfl ?_
                  refine s_skip (.u rfl rfl rfl) rfl ?_
                  refine s_skip (.u rfl rfl rfl) rfl ?_
                  refine s_skip (.g rfl rfl rfl) rfl ?_
                  refine s_pick0 (.n rfl) rfl rfl (.t rfl) .b ?_
                  refine s_move (.n rfl) rfl rfl (.t rfl) ?_
                  refine s_skip (.g rfl rfl rfl) rfl ?_
                  refine s_pick0 (.n rfl) rfl rfl (.t rfl) .b ?_
                  refine s_assign (.n rfl) rfl rfl (.t rfl) ?_
                  cases ho
                  exact s_nil (fun fr h s => And.intro rfl (Exists.intro () (s.pick [] ⟨rfl, trivial⟩ rfl (by decide))))
              · intro _
                show SRun _ _ _ _ _ _
                cases ho
                exact r_ret (ret_of (.inr rfl) (.v rfl .n) (by decide))
end Go.Ai.TabYtpiblfbidgcjaaa
