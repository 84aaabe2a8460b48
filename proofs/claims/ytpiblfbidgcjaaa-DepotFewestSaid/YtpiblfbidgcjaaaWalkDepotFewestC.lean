/- Written by program: walks through functions. -/
import Derived.Test.YtpiblfbidgcjaaaM4
namespace Go.Ai.TabYtpiblfbidgcjaaa
open Go Go.Ai Go.Ai.Sx Go.Proofs
attribute [local irreducible] SOps
set_option maxRecDepth 100000
theorem g_depot_within_ok {n_0 : Int} {low_1 : Int} {high_2 : Int} {out : (Bool)} (ho : g_depot_within n_0 low_1 high_2 = some out) : Fun ktab 56 [.val (rInt .i64) n_0, .val (rInt .i64) low_1, .val (rInt .i64) high_2] [.val rBool (out)] := by
  refine fun_of (F := Try.f56) (by rfl) (by rfl) (by rfl) (fun C hC => ?_)
  delta g_depot_within at ho
  refine r_seq ?_
  refine r_region ?_
  refine s_assign (.n rfl) rfl rfl .b ?_
  refine s_nilq rfl ?_
  refine r_seq ?_
  obtain ⟨c2, hc2, ho⟩ := bnd ho
  refine r_cut (τ := (Bool)) (G := Unit) (fun t => (.normal, fun _ => ([(6, .val rBool (t))], []))) (t := c2) ?_ ?_
  · have ho := hc2
    clear hc2
    refine r_region ?_
    refine s_move (.n rfl) rfl rfl (.t rfl) ?_
    refine s_move (.n rfl) rfl rfl (.t rfl) ?_
    refine s_cmp (.n rfl) rfl rfl (.t rfl) (.t rfl) .geq ?_
    refine s_move (.n rfl) rfl rfl (.t rfl) ?_
    rcases Bool.eq_false_or_eq_true ((decide (n_0 ≥ low_1))) with hb3 | hb3
    · have ho := cnd1 ho hb3
      refine s_move (.g rfl rfl (gt1 hb3)) rfl rfl (.t rfl) ?_
      refine s_move (.g rfl rfl (gt1 hb3)) rfl rfl (.t rfl) ?_
      refine s_cmp (.g rfl rfl (gt1 hb3)) rfl rfl (.t rfl) (.t rfl) .leq ?_
      refine s_pk1 hb3 (.n rfl) rfl rfl (.t rfl) (.t rfl) ?_
      refine s_assign (.n rfl) rfl rfl (.t rfl) ?_
      cases ho
      exact s_nil (fun fr h s => And.intro rfl (Exists.intro () (s.pick [] ⟨rfl, trivial⟩ rfl (by decide))))
    · have ho := cnd0 ho hb3
      refine s_skip (.g rfl rfl (gt0 hb3)) rfl ?_
      refine s_skip (.g rfl rfl (gt0 hb3)) rfl ?_
      refine s_skip (.g rfl rfl (gt0 hb3)) rfl ?_
      refine s_pk0 hb3 (.n rfl) rfl rfl (.t rfl) .b ?_
      refine s_assign (.n rfl) rfl rfl (.t rfl) ?_
      cases ho
      exact s_nil (fun fr h s => And.intro rfl (Exists.intro () (s.pick [] ⟨rfl, trivial⟩ rfl (by decide))))
  · intro _
    show SRun _ _ _ _ _ _
    cases ho
    exact r_ret (ret_of (.inr rfl) (.v rfl .n) (by decide))
theorem g_depot_permutation_ok {l_0 : (List Int)} {out : (Bool)} (ho : g_depot_permutation l_0 = some out) : Fun ktab 36 [.val (rSlice (rInt .i64)) l_0] [.val rBool (out)] := by
  refine fun_of (F := Try.f36) (by rfl) (by rfl) (by rfl) (fun C hC => ?_)
  delta g_depot_permutation at ho
  refine r_seq ?_
  refine r_region ?_
  refine s_assign (.n rfl) rfl rfl .b ?_
  refine s_nilq rfl ?_
  refine r_seq ?_
  refine r_region ?_
  refine s_move (.n rfl) rfl rfl (.t rfl) ?_
  refine s_len S22 (.n rfl) rfl rfl rfl rfl rfl (.t rfl) ?_
  obtain ⟨x1, hx1, ho⟩ := bnd ho
  refine s_mk S84 Y4 Z4 hx1 (.n rfl) rfl rfl (.t rfl) (.t rfl) ?_
  intro v2
  refine s_assign (.n rfl) rfl rfl (.t rfl) ?_
  refine s_nilq rfl ?_
  refine r_seq ?_
  refine r_seq ?_
  refine r_region ?_
  refine s_move (.n rfl) rfl rfl (.t rfl) ?_
  refine s_len S22 (.n rfl) rfl rfl rfl rfl rfl (.t rfl) ?_
  refine s_move (.n rfl) rfl rfl (.i (by decide) (by decide)) ?_
  refine s_nilq rfl ?_
  refine r_block ?_
  obtain ⟨t39, ht39, ho⟩ := bnd ho
  refine r_loop (σ := (Int × (List Bool))) (τ := ((List Bool)) ⊕ (Bool × (List Bool))) (G := List AVal) (fun s g => ([(0, .val (rSlice (rInt .i64)) (l_0)), (3, .raw v2), (9, .val (rSlice (rInt .i64)) (l_0)), (10, .val (rInt .i64) ((lenI l_0))), (11, .val (rInt .i64) (s.1))], [(v2, .row rBool (s.2))])) (altX (fun b => (.exit 0, fun g => ([], []))) (fun b => (.ret, fun g => ([(2, .val rBool (b.1))], [])))) _ [] ht39 (fun fr h s => s.pick [0] ⟨rfl, rfl, rfl, rfl, rfl, trivial⟩ rfl (by decide)) ?_ ?_ ?_
  · intro t
    rcases t with t | t
    · exact (show (.exit 0 : AExit) ≠ .normal from fun e => by cases e)
    · exact (show (.ret : AExit) ≠ .normal from fun e => by cases e)
  · clear ho
    intro s26 g27 r40 ho
    refine r_seq ?_
    refine r_region ?_
    refine s_cmp (.n rfl) rfl rfl (.t rfl) (.t rfl) .lss ?_
    refine s_nilq rfl ?_
    refine r_seq ?_
    refine r_cond (.t rfl) (fun hq28 => ?_) (fun hq28 => ?_)
    · have ho := cnd1 ho hq28
      refine r_skipq rfl ?_
      refine r_seq ?_
      refine r_block ?_
      refine r_seq ?_
      refine r_region ?_
      obtain ⟨x29, hx29, ho⟩ := bnd ho
      refine s_idx S22 hx29 (.n rfl) rfl rfl (.t rfl) (.t rfl) ?_
      refine s_load U3 (.n rfl) rfl rfl (.t rfl) ?_
      refine s_assign (.n rfl) rfl rfl (.t rfl) ?_
      refine s_nilq rfl ?_
      refine r_seq ?_
      refine r_seq ?_
      refine r_region ?_
      refine s_move (.n rfl) rfl rfl (.t rfl) ?_
      refine s_move (.n rfl) rfl rfl (.t rfl) ?_
      refine s_len S22 (.n rfl) rfl rfl rfl rfl rfl (.t rfl) ?_
      refine s_ar (.n rfl) rfl rfl (.t rfl) (.i (by decide) (by decide)) .sub ?_
      obtain ⟨y33, hy33, ho⟩ := bnd ho
      refine s_calll (g_depot_within_ok hy33) (.v flat_bool .n) rfl (.n rfl) rfl rfl rfl .f (.c (.o (.t rfl)) (.c (.o (.i (by decide) (by decide))) (.c (.o (.t rfl)) .n))) ?_
      show SOps _ _ _ _ _ _ _ _
      refine s_not (.n rfl) rfl rfl (.t rfl) ?_
      refine s_move (.n rfl) rfl rfl (.t rfl) ?_
      rcases Bool.eq_false_or_eq_true ((!y33)) with hb34 | hb34
      · have ho := cnd1 ho hb34
        refine s_skip (.g rfl rfl (gf1 hb34)) rfl ?_
        refine s_skip (.g rfl rfl (gf1 hb34)) rfl ?_
        refine s_skip (.g rfl rfl (gf1 hb34)) rfl ?_
        refine s_skip (.g rfl rfl (gf1 hb34)) rfl ?_
        refine s_pk1 hb34 (.n rfl) rfl rfl (.t rfl) .b ?_
        refine s_nilq rfl ?_
        refine r_cond (.t rfl) (fun _ => ?_) (fun hq => by cases hq)
        refine r_seq ?_
        refine r_region ?_
        refine s_assign (.n rfl) rfl rfl .b ?_
        refine s_nilq rfl ?_
        cases ho
        exact r_ret (fun fr h s => And.intro rfl (Exists.intro [] (s.pick [] ⟨rfl, trivial⟩ rfl (by decide))))
      · have ho := cnd0 ho hb34
        refine s_move (.g rfl rfl (gf0 hb34)) rfl rfl (.t rfl) ?_
        refine s_move (.g rfl rfl (gf0 hb34)) rfl rfl (.t rfl) ?_
        obtain ⟨x36, hx36, ho⟩ := bnd ho
        refine s_idxo 0 S84 hx36 (.g rfl rfl (gf0 hb34)) rfl rfl (.t rfl) rfl (.t rfl) ?_
        refine s_loado 0 (fun _ h => by cases h <;> rfl) U4 FOk.self (idx_inv hx36).2.2.2 (.g rfl rfl (gf0 hb34)) rfl rfl (.t rfl) rfl ?_
        refine s_pk0 hb34 (.n rfl) rfl rfl (.t rfl) (.t rfl) ?_
        refine s_nilq rfl ?_
        refine r_cond (.t rfl) (fun hq37 => ?_) (fun hq37 => ?_)
        · have ho := cnd1 ho hq37
          refine r_seq ?_
          refine r_region ?_
          refine s_assign (.n rfl) rfl rfl .b ?_
          refine s_nilq rfl ?_
          cases ho
          exact r_ret (fun fr h s => And.intro rfl (Exists.intro [] (s.pick [] ⟨rfl, trivial⟩ rfl (by decide))))
        · have ho := cnd0 ho hq37
          refine r_skipq rfl ?_
          refine r_region ?_
          refine s_move (.n rfl) rfl rfl (.t rfl) ?_
          refine s_move (.n rfl) rfl rfl (.t rfl) ?_
          obtain ⟨x38, hx38, ho⟩ := bnd ho
          refine s_idxo 0 S84 hx38 (.n rfl) rfl rfl (.t rfl) rfl (.t rfl) ?_
          refine s_storeo 0 U4 FOk.self (idx_inv hx38).2.2.2 (.n rfl) rfl rfl (.t rfl) .b rfl rfl ?_
          refine s_nilq rfl ?_
          refine r_region ?_
          refine s_ar (.n rfl) rfl rfl (.t rfl) (.i (by decide) (by decide)) .add ?_
          refine s_move (.n rfl) rfl rfl (.t rfl) ?_
          cases ho
          exact s_nil (fun fr h s => And.intro rfl (Exists.intro [] (s.pick [0] ⟨rfl, rfl, rfl, rfl, rfl, trivial⟩ rfl (by decide))))
    · have ho := cnd0 ho hq28
      cases ho
      exact r_exit (fun fr h s => And.intro rfl (Exists.intro [] (s.pick [] trivial rfl (by decide))))
  · clear ht39
    rcases t39 with b41 | b42
    · have ho := alt_l ho
      intro g43
      show ∀ fr h, St _ [] [] fr h → _
      show SRun _ _ _ _ _ _
      refine r_seq ?_
      refine r_region ?_
      refine s_assign (.n rfl) rfl rfl .b ?_
      refine s_nilq rfl ?_
      cases ho
      exact r_ret (ret_of (.inr rfl) (.v rfl .n) (by decide))
    · have ho := alt_r ho
      intro g44
      show ∀ fr h, St _ [(2, .val rBool (b42.1))] [] fr h → _
      cases ho
      exact id (ret_of (.inr rfl) (.v rfl .n) (by decide))
theorem g_depot_leaving_through_ok {l_0 : (List Int)} {i_1 : Int} {j_2 : Int} {out : (Bool)} (ho : g_depot_leaving_through l_0 i_1 j_2 = some out) : Fun ktab 62 [.val (rSlice (rInt .i64)) l_0, .val (rInt .i64) i_1, .val (rInt .i64) j_2] [.val rBool (out)] := by
  refine fun_of (F := Try.f62) (by rfl) (by rfl) (by rfl) (fun C hC => ?_)
  delta g_depot_leaving_through at ho
  refine r_seq ?_
  refine r_region ?_
  refine s_assign (.n rfl) rfl rfl .b ?_
  refine s_nilq rfl ?_
  refine r_seq ?_
  refine r_draw [] (by kernel_rfl) ?_
  refine s_move (.n rfl) rfl rfl (.t rfl) ?_
  refine s_move (.n rfl) rfl rfl (.t rfl) ?_
  obtain ⟨x1, hx1, ho⟩ := bnd ho
  refine s_idx S79 hx1 (.n rfl) rfl rfl (.t rfl) (.t rfl) ?_
  refine s_load U3 (.n rfl) rfl rfl (.t rfl) ?_
  refine s_move (.n rfl) rfl rfl (.t rfl) ?_
  refine s_move (.n rfl) rfl rfl (.t rfl) ?_
  obtain ⟨x2, hx2, ho⟩ := bnd ho
  refine s_idx S79 hx2 (.n rfl) rfl rfl (.t rfl) (.t rfl) ?_
  refine s_load U3 (.n rfl) rfl rfl (.t rfl) ?_
  refine s_cmp (.n rfl) rfl rfl (.t rfl) (.t rfl) .lss ?_
  refine s_assign (.n rfl) rfl rfl (.t rfl) ?_
  refine s_nilq rfl ?_
  cases ho
  exact r_ret (ret_of (.inr rfl) (.v rfl .n) (by decide))
theorem g_depot_leaving_dead_ok {l_0 : (List Int)} {i_1 : Int} {j_2 : Int} {out : (Bool)} (ho : g_depot_leaving_dead l_0 i_1 j_2 = some out) : Fun ktab 63 [.val (rSlice (rInt .i64)) l_0, .val (rInt .i64) i_1, .val (rInt .i64) j_2] [.val rBool (out)] := by
  refine fun_of (F := Try.f63) (by rfl) (by rfl) (by rfl) (fun C hC => ?_)
  delta g_depot_leaving_dead at ho
  refine r_seq ?_
  refine r_region ?_
  refine s_assign (.n rfl) rfl rfl .b ?_
  refine s_nilq rfl ?_
  refine r_seq ?_
  refine r_draw [] (by kernel_rfl) ?_
  refine s_move (.n rfl) rfl rfl (.t rfl) ?_
  refine s_move (.n rfl) rfl rfl (.t rfl) ?_
  obtain ⟨x1, hx1, ho⟩ := bnd ho
  refine s_idx S79 hx1 (.n rfl) rfl rfl (.t rfl) (.t rfl) ?_
  refine s_load U3 (.n rfl) rfl rfl (.t rfl) ?_
  refine s_move (.n rfl) rfl rfl (.t rfl) ?_
  refine s_move (.n rfl) rfl rfl (.t rfl) ?_
  obtain ⟨x2, hx2, ho⟩ := bnd ho
  refine s_idx S79 hx2 (.n rfl) rfl rfl (.t rfl) (.t rfl) ?_
  refine s_load U3 (.n rfl) rfl rfl (.t rfl) ?_
  refine s_cmp (.n rfl) rfl rfl (.t rfl) (.t rfl) .lss ?_
  refine s_assign (.n rfl) rfl rfl (.t rfl) ?_
  refine s_nilq rfl ?_
  cases ho
  exact r_ret (ret_of (.inr rfl) (.v rfl .n) (by decide))
theorem g_depot_leaving_way_ok {l_0 : (List Int)} {through_1 : Bool} {out : (((Int × Int) → Option (Bool)))} (ho : g_depot_leaving_way l_0 through_1 = some out) : Fun ktab 37 [.val (rSlice (rInt .i64)) l_0, .val rBool through_1] [.val (rFn ktab (Int × Int) (Bool) (fun x => [.val (rInt .i64) (x.1), .val (rInt .i64) (x.2)]) (fun y => [.val rBool (y)])) (out)] := by
  refine fun_of (F := Try.f37) (by rfl) (by rfl) (by rfl) (fun C hC => ?_)
  delta g_depot_leaving_way at ho
  refine r_seq ?_
  refine r_region ?_
  refine s_pure rfl (.n rfl) rfl (e := .raw .nilfunc) (fun z fr h s => ⟨_, rfl, by simp only [TE.ok]; rfl⟩) ?_
  refine s_nilq rfl ?_
  refine r_seq ?_
  refine r_seq ?_
  refine r_region ?_
  refine s_move (.n rfl) rfl rfl (.t rfl) ?_
  refine s_nilq rfl ?_
  refine r_cond (.t rfl) (fun hq1 => ?_) (fun hq1 => ?_)
  · have ho := cnd1 ho hq1
    refine r_seq ?_
    refine r_region ?_
    refine s_move (.n rfl) rfl rfl (.t rfl) ?_
    refine s_mkfn (X := (Int × Int)) (Y := (Bool)) (fun x => [.val (rInt .i64) (x.1), .val (rInt .i64) (x.2)]) (fun y => [.val rBool (y)]) (f := (fun x => g_depot_leaving_through l_0 x.1 x.2)) (fun x y hf => g_depot_leaving_through_ok hf) rfl (.n rfl) rfl rfl (.c (.t rfl) .n) .n ?_
    refine s_assign (.n rfl) rfl rfl (.t rfl) ?_
    refine s_nilq rfl ?_
    cases ho
    exact r_ret (ret_of (.inr rfl) (.v rfl .n) (by decide))
  · have ho := cnd0 ho hq1
    refine r_skipq rfl ?_
    refine r_seq ?_
    refine r_region ?_
    refine s_move (.n rfl) rfl rfl (.t rfl) ?_
    refine s_mkfn (X := (Int × Int)) (Y := (Bool)) (fun x => [.val (rInt .i64) (x.1), .val (rInt .i64) (x.2)]) (fun y => [.val rBool (y)]) (f := (fun x => g_depot_leaving_dead l_0 x.1 x.2)) (fun x y hf => g_depot_leaving_dead_ok hf) rfl (.n rfl) rfl rfl (.c (.t rfl) .n) .n ?_
    refine s_assign (.n rfl) rfl rfl (.t rfl) ?_
    refine s_nilq rfl ?_
    cases ho
    exact r_ret (ret_of (.inr rfl) (.v rfl .n) (by decide))
theorem g_slices_IndexFunc_int_int_ok {s_0 : (List Int)} {f_1 : ((Int) → Option (Bool))} {out : (Int)} (ho : g_slices_IndexFunc_int_int s_0 f_1 = some out) : Fun ktab 64 [.val (rSlice (rInt .i64)) s_0, .val (rFn ktab (Int) (Bool) (fun x => [.val (rInt .i64) (x)]) (fun y => [.val rBool (y)])) f_1] [.val (rInt .i64) (out)] := by
  refine fun_of (F := Try.f64) (by rfl) (by rfl) (by rfl) (fun C hC => ?_)
  delta g_slices_IndexFunc_int_int at ho
  refine r_seq ?_
  refine r_region ?_
  refine s_assign (.n rfl) rfl rfl (.i (by decide) (by decide)) ?_
  refine s_nilq rfl ?_
  refine r_seq ?_
  refine r_seq ?_
  refine r_region ?_
  refine s_move (.n rfl) rfl rfl (.t rfl) ?_
  refine s_len S22 (.n rfl) rfl rfl rfl rfl rfl (.t rfl) ?_
  refine s_move (.n rfl) rfl rfl (.i (by decide) (by decide)) ?_
  refine s_nilq rfl ?_
  refine r_block ?_
  obtain ⟨t11, ht11, ho⟩ := bnd ho
  refine r_loop (σ := (Int)) (τ := Unit ⊕ (Int)) (G := List AVal) (fun s g => ([(0, .val (rSlice (rInt .i64)) (s_0)), (1, .val (rFn ktab (Int) (Bool) (fun x => [.val (rInt .i64) (x)]) (fun y => [.val rBool (y)])) (f_1)), (7, .val (rInt .i64) ((lenI s_0))), (8, .val (rInt .i64) (s))], [])) (altX (fun b => (.exit 0, fun g => ([], []))) (fun b => (.ret, fun g => ([(4, .val (rInt .i64) (b))], [])))) _ [] ht11 (fun fr h s => s.pick [] ⟨rfl, rfl, rfl, rfl, trivial⟩ rfl (by decide)) ?_ ?_ ?_
  · intro t
    rcases t with t | t
    · exact (show (.exit 0 : AExit) ≠ .normal from fun e => by cases e)
    · exact (show (.ret : AExit) ≠ .normal from fun e => by cases e)
  · clear ho
    intro s5 g6 r12 ho
    refine r_seq ?_
    refine r_region ?_
    refine s_cmp (.n rfl) rfl rfl (.t rfl) (.t rfl) .lss ?_
    refine s_nilq rfl ?_
    refine r_seq ?_
    refine r_cond (.t rfl) (fun hq7 => ?_) (fun hq7 => ?_)
    · have ho := cnd1 ho hq7
      refine r_skipq rfl ?_
      refine r_seq ?_
      refine r_block ?_
      refine r_seq ?_
      refine r_region ?_
      refine s_move (.n rfl) rfl rfl (.t rfl) ?_
      refine s_assign (.n rfl) rfl rfl (.t rfl) ?_
      refine s_nilq rfl ?_
      refine r_seq ?_
      refine r_region ?_
      refine s_move (.n rfl) rfl rfl (.t rfl) ?_
      refine s_move (.n rfl) rfl rfl (.t rfl) ?_
      refine s_move (.n rfl) rfl rfl (.t rfl) ?_
      obtain ⟨x8, hx8, ho⟩ := bnd ho
      refine s_idx S22 hx8 (.n rfl) rfl rfl (.t rfl) (.t rfl) ?_
      refine s_load U3 (.n rfl) rfl rfl (.t rfl) ?_
      obtain ⟨y9, hy9, ho⟩ := bnd ho
      refine s_callv hy9 (.n rfl) rfl rfl rfl (.t rfl) (.c (.t rfl) .n) ?_
      show SOps _ _ _ _ _ _ _ _
      refine s_nilq rfl ?_
      refine r_cond (.t rfl) (fun hq10 => ?_) (fun hq10 => ?_)
      · have ho := cnd1 ho hq10
        refine r_seq ?_
        refine r_region ?_
        refine s_move (.n rfl) rfl rfl (.t rfl) ?_
        refine s_assign (.n rfl) rfl rfl (.t rfl) ?_
        refine s_nilq rfl ?_
        cases ho
        exact r_ret (fun fr h s => And.intro rfl (Exists.intro [] (s.pick [] ⟨rfl, trivial⟩ rfl (by decide))))
      · have ho := cnd0 ho hq10
        refine r_skipq rfl ?_
        refine r_region ?_
        refine s_ar (.n rfl) rfl rfl (.t rfl) (.i (by decide) (by decide)) .add ?_
        refine s_move (.n rfl) rfl rfl (.t rfl) ?_
        cases ho
        exact s_nil (fun fr h s => And.intro rfl (Exists.intro [] (s.pick [] ⟨rfl, rfl, rfl, rfl, trivial⟩ rfl (by decide))))
    · have ho := cnd0 ho hq7
      cases ho
      exact r_exit (fun fr h s => And.intro rfl (Exists.intro [] (s.pick [] trivial rfl (by decide))))
  · clear ht11
    rcases t11 with b13 | b14
    · have ho := alt_l ho
      intro g15
      show ∀ fr h, St _ [] [] fr h → _
      show SRun _ _ _ _ _ _
      refine r_seq ?_
      refine r_region ?_
      refine s_assign (.n rfl) rfl rfl (.i (by decide) (by decide)) ?_
      refine s_nilq rfl ?_
      cases ho
      exact r_ret (ret_of (.inr rfl) (.v rfl .n) (by decide))
    · have ho := alt_r ho
      intro g16
      show ∀ fr h, St _ [(4, .val (rInt .i64) (b14))] [] fr h → _
      cases ho
      exact id (ret_of (.inr rfl) (.v rfl .n) (by decide))
theorem g_slices_ContainsFunc_int_int_ok {s_0 : (List Int)} {f_1 : ((Int) → Option (Bool))} {out : (Bool)} (ho : g_slices_ContainsFunc_int_int s_0 f_1 = some out) : Fun ktab 38 [.val (rSlice (rInt .i64)) s_0, .val (rFn ktab (Int) (Bool) (fun x => [.val (rInt .i64) (x)]) (fun y => [.val rBool (y)])) f_1] [.val rBool (out)] := by
  refine fun_of (F := Try.f38) (by rfl) (by rfl) (by rfl) (fun C hC => ?_)
  delta g_slices_ContainsFunc_int_int at ho
  refine r_seq ?_
  refine r_region ?_
  refine s_assign (.n rfl) rfl rfl .b ?_
  refine s_nilq rfl ?_
  refine r_seq ?_
  refine r_region ?_
  refine s_move (.n rfl) rfl rfl (.t rfl) ?_
  refine s_move (.n rfl) rfl rfl (.t rfl) ?_
  obtain ⟨y1, hy1, ho⟩ := bnd ho
  refine s_calll (g_slices_IndexFunc_int_int_ok hy1) (.v flat_int .n) rfl (.n rfl) rfl rfl rfl .f (.c (.o (.t rfl)) (.c (.o (.t rfl)) .n)) ?_
  show SOps _ _ _ _ _ _ _ _
  refine s_cmp (.n rfl) rfl rfl (.t rfl) (.i (by decide) (by decide)) .geq ?_
  refine s_assign (.n rfl) rfl rfl (.t rfl) ?_
  refine s_nilq rfl ?_
  cases ho
  exact r_ret (ret_of (.inr rfl) (.v rfl .n) (by decide))
theorem g_depot_Assign_1_ok {i_0 : Int} {p_1 : ((Int × Int) → Option (Bool))} {p_2 : Int} {out : (Bool)} (ho : g_depot_Assign_1 i_0 p_1 p_2 = some out) : Fun ktab 39 [.val (rInt .i64) i_0, .val (rPtr (rFn ktab (Int × Int) (Bool) (fun x => [.val (rInt .i64) (x.1), .val (rInt .i64) (x.2)]) (fun y => [.val rBool (y)]))) p_1, .val (rPtr (rInt .i64)) p_2] [.val rBool (out)] := by
  refine fun_of (F := Try.f39) (by rfl) (by rfl) (by rfl) (fun C hC => ?_)
  delta g_depot_Assign_1 at ho
  refine r_seq ?_
  refine r_region ?_
  refine s_assign (.n rfl) rfl rfl .b ?_
  refine s_nilq rfl ?_
  refine r_seq ?_
  refine r_region ?_
  refine s_load U78 (.n rfl) rfl rfl (.t rfl) ?_
  refine s_move (.n rfl) rfl rfl (.t rfl) ?_
  refine s_load U3 (.n rfl) rfl rfl (.t rfl) ?_
  obtain ⟨y1, hy1, ho⟩ := bnd ho
  refine s_callv hy1 (.n rfl) rfl rfl rfl (.t rfl) (.c (.t rfl) (.c (.t rfl) .n)) ?_
  show SOps _ _ _ _ _ _ _ _
  refine s_assign (.n rfl) rfl rfl (.t rfl) ?_
  refine s_nilq rfl ?_
  cases ho
  exact r_ret (ret_of (.inr rfl) (.v rfl .n) (by decide))
theorem g_depot_Assign_ok {p_0 : (List Int)} {p_1 : Bool} {out : ((List Int) × (List Int) × Int)} (ho : g_depot_Assign p_0 p_1 = some out) : Fun ktab 13 [.val (rSlice (rInt .i64)) p_0, .val rBool p_1] [.row (rInt .i64) (out.1), .row (rInt .i64) (out.2.1), .val (rInt .i64) (out.2.2)] := by
  refine fun_of (F := Try.f13) (by rfl) (by rfl) (by rfl) (fun C hC => ?_)
  delta g_depot_Assign at ho
  refine r_seq ?_
  refine r_region ?_
  refine s_st (st_nilrow (rInt .i64)) ?_
  refine s_assign (.n rfl) rfl rfl .nilr ?_
  refine s_st (st_nilrow (rInt .i64)) ?_
  refine s_assign (.n rfl) rfl rfl .nilr ?_
  refine s_assign (.n rfl) rfl rfl (.i (by decide) (by decide)) ?_
  refine s_nilq rfl ?_
  refine r_scope (by exact ret_goto) ?_
  refine r_seq ?_
  refine r_seq ?_
  obtain ⟨c5, hc5, ho⟩ := bnd ho
  refine r_cut (τ := (Bool)) (G := Unit) (fun t => (.normal, fun _ => ([(0, .val (rSlice (rInt .i64)) (p_0)), (1, .val rBool (p_1)), (26, .val rBool (t))], [(.nilslice, .row (rInt .i64) ([])), (.nilslice, .row (rInt .i64) ([]))]))) (t := c5) ?_ ?_
  · have ho := hc5
    clear hc5
    refine r_region ?_
    refine s_move (.n rfl) rfl rfl (.t rfl) ?_
    refine s_len S22 (.n rfl) rfl rfl rfl rfl rfl (.t rfl) ?_
    refine s_cmp (.n rfl) rfl rfl (.t rfl) (.i (by decide) (by decide)) .gtr ?_
    refine s_move (.n rfl) rfl rfl (.t rfl) ?_
    rcases Bool.eq_false_or_eq_true ((decide ((lenI p_0) > 200))) with hb6 | hb6
    · have ho := cnd1 ho hb6
      refine s_skip (.g rfl rfl (gf1 hb6)) rfl ?_
      refine s_skip (.g rfl rfl (gf1 hb6)) rfl ?_
      refine s_skip (.g rfl rfl (gf1 hb6)) rfl ?_
      refine s_pk1 hb6 (.n rfl) rfl rfl (.t rfl) .b ?_
      cases ho
      exact s_nil (fun fr h s => And.intro rfl (Exists.intro () (s.pick [0, 1] ⟨rfl, rfl, rfl, trivial⟩ rfl (by decide))))
    · have ho := cnd0 ho hb6
      refine s_move (.g rfl rfl (gf0 hb6)) rfl rfl (.t rfl) ?_
      obtain ⟨y7, hy7, ho⟩ := bnd ho
      refine s_calll (g_depot_permutation_ok hy7) (.v flat_bool .n) rfl (.g rfl rfl (gf0 hb6)) rfl rfl rfl .f (.c (.o (.t rfl)) .n) ?_
      show SOps _ _ _ _ _ _ _ _
      refine s_not (.g rfl rfl (gf0 hb6)) rfl rfl (.t rfl) ?_
      refine s_pk0 hb6 (.n rfl) rfl rfl (.t rfl) (.t rfl) ?_
      cases ho
      exact s_nil (fun fr h s => And.intro rfl (Exists.intro () (s.pick [0, 1] ⟨rfl, rfl, rfl, trivial⟩ rfl (by decide))))
  · intro _
    show SRun _ _ _ _ _ _
    refine r_cond (.t rfl) (fun hq8 => ?_) (fun hq8 => ?_)
    · have ho := cnd1 ho hq8
      refine r_seq ?_
      refine r_region ?_
      refine s_st (st_nilrow (rInt .i64)) ?_
      refine s_assign (.n rfl) rfl rfl .nilr ?_
      refine s_st (st_nilrow (rInt .i64)) ?_
      refine s_assign (.n rfl) rfl rfl .nilr ?_
      refine s_assign (.n rfl) rfl rfl (.i (by decide) (by decide)) ?_
      refine s_nilq rfl ?_
      cases ho
      exact r_ret (ret_of (.inr rfl) (.r 1 rfl rfl (.r 0 rfl rfl (.v rfl .n))) (by decide))
    · have ho := cnd0 ho hq8
      refine r_skipq rfl ?_
      refine r_seq ?_
      refine r_region ?_
      refine s_move (.n rfl) rfl rfl (.t rfl) ?_
      refine s_move (.n rfl) rfl rfl (.t rfl) ?_
      obtain ⟨y11, hy11, ho⟩ := bnd ho
      refine s_call (pre := []) (post := []) (vs := []) (g_depot_leaving_way_ok hy11) rfl (.n rfl) rfl rfl rfl .f (.c (.t rfl) (.c (.t rfl) .n)) ?_
      show SOps _ _ _ _ _ _ _ _
      refine s_alloc (zv := .nilfunc) (es := [.raw (.nilfunc)]) (by kernel_rfl) (fun _ => (okraw okn)) rfl (.n rfl) rfl rfl ?_
      intro b12
      refine s_storeb 0 (U78).sz rfl (by exact Nat.le_of_ble_eq_true rfl) (.n rfl) rfl rfl (.t rfl) (.t rfl) rfl rfl ?_
      refine s_st (st_freezeb (R := (rFn ktab (Int × Int) (Bool) (fun x => [.val (rInt .i64) (x.1), .val (rInt .i64) (x.2)]) (fun y => [.val rBool (y)]))) (a := y11) 0 [7] (cells_one rfl) rfl rfl ⟨rfl, trivial⟩) ?_
      refine s_nilq rfl ?_
      refine r_seq ?_
      refine r_region ?_
      refine s_st (st_pack0 (rInt .i64)) ?_
      refine s_st (st_nilrow rRaw) ?_
      refine s_assign (.n rfl) rfl rfl .nilr ?_
      refine s_nilq rfl ?_
      refine r_seq ?_
      refine r_region ?_
      refine s_st (st_nilrow (rInt .i64)) ?_
      refine s_assign (.n rfl) rfl rfl .nilr ?_
      refine s_nilq rfl ?_
      refine r_seq ?_
      refine r_labelq rfl ?_
      refine r_seq ?_
      refine r_seq ?_
      refine r_region ?_
      refine s_move (.n rfl) rfl rfl (.t rfl) ?_
      refine s_len S22 (.n rfl) rfl rfl rfl rfl rfl (.t rfl) ?_
      refine s_move (.n rfl) rfl rfl (.i (by decide) (by decide)) ?_
      refine s_nilq rfl ?_
      refine r_block ?_
      obtain ⟨t167, ht167, ho⟩ := bnd ho
      refine r_loop (σ := ((List (List Int)) × (List Int) × Int)) (τ := ((List (List Int)) × (List Int))) (G := List AVal) (fun s g => ([(0, .val (rSlice (rInt .i64)) (p_0)), (7, .val (rPtr (rFn ktab (Int × Int) (Bool) (fun x => [.val (rInt .i64) (x.1), .val (rInt .i64) (x.2)]) (fun y => [.val rBool (y)]))) (y11)), (8, .raw ((gh g 0))), (9, .raw ((gh g 2))), (31, .val (rInt .i64) ((lenI p_0))), (32, .val (rInt .i64) (s.2.2))], [((gh g 0), .row rRaw ((untup (gh g 1)))), (.undef, pack (rInt .i64) ((untup (gh g 1))) s.1), ((gh g 2), .row (rInt .i64) (s.2.1))])) (fun b => (.exit 0, fun g => ([(0, .val (rSlice (rInt .i64)) (p_0)), (7, .val (rPtr (rFn ktab (Int × Int) (Bool) (fun x => [.val (rInt .i64) (x.1), .val (rInt .i64) (x.2)]) (fun y => [.val rBool (y)]))) (y11)), (8, .raw ((gh g 0))), (9, .raw ((gh g 2)))], [((gh g 0), .row rRaw ((untup (gh g 1)))), (.undef, pack (rInt .i64) ((untup (gh g 1))) b.1), ((gh g 2), .row (rInt .i64) (b.2))]))) _ [.nilslice, .tuple ([]), .nilslice] ht167 (fun fr h s => s.pick [1, 2, 0] ⟨rfl, rfl, rfl, rfl, rfl, rfl, trivial⟩ rfl (by decide)) ?_ ?_ ?_
      · intro t
        exact (show (.exit 0 : AExit) ≠ .normal from fun e => by cases e)
      · clear ho
        intro s85 g86 r168 ho
        refine r_seq ?_
        refine r_region ?_
        refine s_cmp (.n rfl) rfl rfl (.t rfl) (.t rfl) .lss ?_
        refine s_nilq rfl ?_
        refine r_seq ?_
        refine r_cond (.t rfl) (fun hq96 => ?_) (fun hq96 => ?_)
        · have ho := cnd1 ho hq96
          refine r_skipq rfl ?_
          refine r_seq ?_
          refine r_block ?_
          refine r_seq ?_
          refine r_region ?_
          refine s_move (.n rfl) rfl rfl (.t rfl) ?_
          refine s_alloc (zv := .int .i64 0) (es := [.val (rInt .i64) (0)]) (by kernel_rfl) (fun _ => (okint okn)) rfl (.n rfl) rfl rfl ?_
          intro b97
          refine s_storeb 0 (U3).sz rfl (by exact Nat.le_of_ble_eq_true rfl) (.n rfl) rfl rfl (.t rfl) (.t rfl) rfl rfl ?_
          refine s_st (st_freezeb (R := (rInt .i64)) (a := s85.2.2) 0 [10] (cells_one rfl) rfl rfl ⟨rfl, trivial⟩) ?_
          refine s_nilq rfl ?_
          refine r_seq ?_
          refine r_seq ?_
          refine r_region ?_
          refine s_move (.n rfl) rfl rfl (.t rfl) ?_
          refine s_lenr (R := (rInt .i64)) 0 1 SR81 (.n rfl) rfl rfl rfl rfl rfl (.t rfl) rfl rfl ?_
          refine s_move (.n rfl) rfl rfl (.i (by decide) (by decide)) ?_
          refine s_nilq rfl ?_
          refine r_block ?_
          obtain ⟨t144, ht144, ho⟩ := bnd ho
          refine r_loop (σ := ((List Int) × Int × (List (List Int)))) (τ := ((List Int) × (List (List Int))) ⊕ ((List Int) × (List (List Int)))) (G := List AVal) (fun s g => ([(0, .val (rSlice (rInt .i64)) (p_0)), (7, .val (rPtr (rFn ktab (Int × Int) (Bool) (fun x => [.val (rInt .i64) (x.1), .val (rInt .i64) (x.2)]) (fun y => [.val rBool (y)]))) (y11)), (8, .raw ((gh g 1))), (9, .raw ((gh g 0))), (10, .val (rPtr (rInt .i64)) (s85.2.2)), (31, .val (rInt .i64) ((lenI p_0))), (32, .val (rInt .i64) (s85.2.2)), (35, .raw ((gh g 1))), (36, .val (rInt .i64) ((lenI s85.1))), (37, .val (rInt .i64) (s.2.1))], [((gh g 1), .row rRaw ((untup (gh g 2)))), (.undef, pack (rInt .i64) ((untup (gh g 2))) s.2.2), ((gh g 0), .row (rInt .i64) (s.1))])) (altX (fun b => (.exit 1, fun g => ([(0, .val (rSlice (rInt .i64)) (p_0)), (7, .val (rPtr (rFn ktab (Int × Int) (Bool) (fun x => [.val (rInt .i64) (x.1), .val (rInt .i64) (x.2)]) (fun y => [.val rBool (y)]))) (y11)), (8, .raw ((gh g 1))), (9, .raw ((gh g 0))), (31, .val (rInt .i64) ((lenI p_0))), (32, .val (rInt .i64) (s85.2.2))], [((gh g 1), .row rRaw ((untup (gh g 2)))), (.undef, pack (rInt .i64) ((untup (gh g 2))) b.2), ((gh g 0), .row (rInt .i64) (b.1))]))) (fun b => (.exit 2, fun g => ([(0, .val (rSlice (rInt .i64)) (p_0)), (7, .val (rPtr (rFn ktab (Int × Int) (Bool) (fun x => [.val (rInt .i64) (x.1), .val (rInt .i64) (x.2)]) (fun y => [.val rBool (y)]))) (y11)), (8, .raw ((gh g 1))), (9, .raw ((gh g 0))), (10, .val (rPtr (rInt .i64)) (s85.2.2)), (31, .val (rInt .i64) ((lenI p_0))), (32, .val (rInt .i64) (s85.2.2))], [((gh g 1), .row rRaw ((untup (gh g 2)))), (.undef, pack (rInt .i64) ((untup (gh g 2))) b.2), ((gh g 0), .row (rInt .i64) (b.1))])))) _ [(gh g86 2), (gh g86 0), .tuple ((untup (gh g86 1)))] ht144 (fun fr h s => s.pick [0, 1, 2] ⟨rfl, rfl, rfl, rfl, rfl, rfl, rfl, rfl, rfl, rfl, trivial⟩ rfl (by decide)) ?_ ?_ ?_
          · intro t
            rcases t with t | t
            · exact (show (.exit 1 : AExit) ≠ .normal from fun e => by cases e)
            · exact (show (.exit 2 : AExit) ≠ .normal from fun e => by cases e)
          · clear ho
            intro s124 g125 r145 ho
            refine r_seq ?_
            refine r_region ?_
            refine s_cmp (.n rfl) rfl rfl (.t rfl) (.t rfl) .lss ?_
            refine s_nilq rfl ?_
            refine r_seq ?_
            refine r_cond (.t rfl) (fun hq130 => ?_) (fun hq130 => ?_)
            · have ho := cnd1 ho hq130
              refine r_skipq rfl ?_
              refine r_seq ?_
              refine r_block ?_
              refine r_seq ?_
              refine r_region ?_
              refine s_move (.n rfl) rfl rfl (.t rfl) ?_
              obtain ⟨x131, hx131, ho⟩ := bnd ho
              refine s_idxr (R := (rInt .i64)) 0 1 SR81 hx131 (.n rfl) rfl rfl (.t rfl) rfl rfl (.t rfl) ?_
              intro w132 hw132
              refine s_loado 0 (fun _ h => by cases h <;> rfl) UR22 FOk.self hw132 (.n rfl) rfl rfl (.t rfl) rfl ?_
              refine s_st (st_unraw (n := 41) rfl) ?_
              refine s_assign (.n rfl) rfl rfl (.t rfl) ?_
              refine s_assign (.n rfl) rfl rfl (.t rfl) ?_
              refine s_nilq rfl ?_
              refine r_seq ?_
              refine r_region ?_
              refine s_move (.n rfl) rfl rfl (.t rfl) ?_
              refine s_mkfn (X := (Int)) (Y := (Bool)) (fun x => [.val (rInt .i64) (x)]) (fun y => [.val rBool (y)]) (f := (fun x => g_depot_Assign_1 x y11 s85.2.2)) (fun x y hf => g_depot_Assign_1_ok hf) rfl (.n rfl) rfl rfl .n (.c (.t rfl) (.c (.t rfl) .n)) ?_
              refine s_st (st_take (i := Int.toNat s124.2.1) 1 rfl rfl hw132 (idx_inv hx131).2.2.2) ?_
              obtain ⟨y134, hy134, ho⟩ := bnd ho
              refine s_calll (g_slices_ContainsFunc_int_int_ok hy134) (.v flat_bool .n) rfl (.n rfl) rfl rfl rfl .f (.c (.r 0 (.t rfl) rfl) (.c (.o (.t rfl)) .n)) ?_
              show SOps _ _ _ _ _ _ _ _
              refine s_st (st_back (i := Int.toNat s124.2.1) (hs := (untup (gh g125 2))) (xss := s124.2.2) 0 0 rfl rfl rfl rfl hw132 (idx_inv hx131).2.2.2) ?_
              refine s_not (.n rfl) rfl rfl (.t rfl) ?_
              refine s_nilq rfl ?_
              refine r_cond (.t rfl) (fun hq135 => ?_) (fun hq135 => ?_)
              · have ho := cnd1 ho hq135
                refine r_seq ?_
                refine r_region ?_
                refine s_move (.n rfl) rfl rfl (.t rfl) ?_
                refine s_move (.n rfl) rfl rfl (.t rfl) ?_
                refine s_move (.n rfl) rfl rfl (.t rfl) ?_
                refine s_load U3 (.n rfl) rfl rfl (.t rfl) ?_
                refine s_bs (R := (rInt .i64)) S22 Y3 (.n rfl) rfl rfl (.c (.t rfl) .n) rfl (by decide) ?_
                refine s_st (st_take (i := Int.toNat s124.2.1) 0 rfl rfl hw132 (idx_inv hx131).2.2.2) ?_
                obtain ⟨x137, hx137, ho⟩ := bnd ho
                refine s_app 0 S22 Y3 hx137 (.n rfl) rfl rfl rfl rfl rfl (.t rfl) rfl (.t rfl) rfl ?_
                intro v138
                refine s_idxo 2 SR81 (idx_of hx131 hw132) (.n rfl) rfl rfl (.t rfl) rfl (.t rfl) ?_
                refine s_st (st_toraw (n := 51) 0 rfl rfl) ?_
                refine s_storeo 2 UR22 FOk.self hw132 (.n rfl) rfl rfl (.t rfl) (.t rfl) rfl rfl ?_
                refine s_st (st_put (i := Int.toNat s124.2.1) (hs := (untup (gh g125 2))) (xss := s124.2.2) 0 0 rfl rfl rfl rfl hw132 (idx_inv hx131).2.2.2) ?_
                refine s_nilq rfl ?_
                refine r_seq ?_
                refine r_region ?_
                refine s_move (.n rfl) rfl rfl (.t rfl) ?_
                refine s_move (.n rfl) rfl rfl (.t rfl) ?_
                refine s_bs (R := (rInt .i64)) S22 Y3 (.n rfl) rfl rfl (.c (.t rfl) .n) rfl (by decide) ?_
                obtain ⟨x139, hx139, ho⟩ := bnd ho
                refine s_app 2 S22 Y3 hx139 (.n rfl) rfl rfl rfl rfl rfl (.t rfl) rfl (.t rfl) rfl ?_
                intro v140
                refine s_assign (.n rfl) rfl rfl (.t rfl) ?_
                refine s_nilq rfl ?_
                cases ho
                exact r_exit (fun fr h s => And.intro rfl (Exists.intro [v140, (gh g125 1), .tuple (((untup (gh g125 2))).set (Int.toNat s124.2.1) v138)] (s.pick [2, 1, 0] ⟨rfl, rfl, rfl, rfl, rfl, rfl, trivial⟩ rfl (by decide))))
              · have ho := cnd0 ho hq135
                refine r_skipq rfl ?_
                refine r_region ?_
                refine s_ar (.n rfl) rfl rfl (.t rfl) (.i (by decide) (by decide)) .add ?_
                refine s_move (.n rfl) rfl rfl (.t rfl) ?_
                cases ho
                exact s_nil (fun fr h s => And.intro rfl (Exists.intro [(gh g125 0), (gh g125 1), .tuple ((untup (gh g125 2)))] (s.pick [1, 0, 2] ⟨rfl, rfl, rfl, rfl, rfl, rfl, rfl, rfl, rfl, rfl, trivial⟩ rfl (by decide))))
            · have ho := cnd0 ho hq130
              cases ho
              exact r_exit (fun fr h s => And.intro rfl (Exists.intro [(gh g125 0), (gh g125 1), .tuple ((untup (gh g125 2)))] (s.pick [0, 1, 2] ⟨rfl, rfl, rfl, rfl, rfl, rfl, rfl, trivial⟩ rfl (by decide))))
          · clear ht144
            rcases t144 with b146 | b147
            · have ho := alt_l ho
              intro g148
              show ∀ fr h, St _ [(0, .val (rSlice (rInt .i64)) (p_0)), (7, .val (rPtr (rFn ktab (Int × Int) (Bool) (fun x => [.val (rInt .i64) (x.1), .val (rInt .i64) (x.2)]) (fun y => [.val rBool (y)]))) (y11)), (8, .raw ((gh g148 1))), (9, .raw ((gh g148 0))), (31, .val (rInt .i64) ((lenI p_0))), (32, .val (rInt .i64) (s85.2.2))] [((gh g148 1), .row rRaw ((untup (gh g148 2)))), (.undef, pack (rInt .i64) ((untup (gh g148 2))) b146.2), ((gh g148 0), .row (rInt .i64) (b146.1))] fr h → _
              show SRun _ _ _ _ _ _
              refine r_region ?_
              refine s_ar (.n rfl) rfl rfl (.t rfl) (.i (by decide) (by decide)) .add ?_
              refine s_move (.n rfl) rfl rfl (.t rfl) ?_
              cases ho
              exact s_nil (fun fr h s => And.intro rfl (Exists.intro [(gh g148 1), .tuple ((untup (gh g148 2))), (gh g148 0)] (s.pick [0, 1, 2] ⟨rfl, rfl, rfl, rfl, rfl, rfl, trivial⟩ rfl (by decide))))
            · have ho := alt_r ho
              intro g153
              show ∀ fr h, St _ [(0, .val (rSlice (rInt .i64)) (p_0)), (7, .val (rPtr (rFn ktab (Int × Int) (Bool) (fun x => [.val (rInt .i64) (x.1), .val (rInt .i64) (x.2)]) (fun y => [.val rBool (y)]))) (y11)), (8, .raw ((gh g153 1))), (9, .raw ((gh g153 0))), (10, .val (rPtr (rInt .i64)) (s85.2.2)), (31, .val (rInt .i64) ((lenI p_0))), (32, .val (rInt .i64) (s85.2.2))] [((gh g153 1), .row rRaw ((untup (gh g153 2)))), (.undef, pack (rInt .i64) ((untup (gh g153 2))) b147.2), ((gh g153 0), .row (rInt .i64) (b147.1))] fr h → _
              show SRun _ _ _ _ _ _
              refine r_seq ?_
              refine r_region ?_
              refine s_move (.n rfl) rfl rfl (.t rfl) ?_
              refine s_move (.n rfl) rfl rfl (.t rfl) ?_
              refine s_lenr (R := (rInt .i64)) 0 1 SR81 (.n rfl) rfl rfl rfl rfl rfl (.t rfl) rfl rfl ?_
              refine s_bs (R := (rInt .i64)) S22 Y3 (.n rfl) rfl rfl (.c (.t rfl) .n) rfl (by decide) ?_
              obtain ⟨x155, hx155, ho⟩ := bnd ho
              refine s_app 2 S22 Y3 hx155 (.n rfl) rfl rfl rfl rfl rfl (.t rfl) rfl (.t rfl) rfl ?_
              intro v156
              refine s_assign (.n rfl) rfl rfl (.t rfl) ?_
              refine s_nilq rfl ?_
              refine r_region ?_
              refine s_move (.n rfl) rfl rfl (.t rfl) ?_
              refine s_load U3 (.n rfl) rfl rfl (.t rfl) ?_
              refine s_bso (R := (rInt .i64)) S22 Y3 (.n rfl) rfl rfl (.c (.t rfl) .n) rfl (by decide) ?_
              intro v157
              refine s_st (st_toraw (n := 65) 0 rfl rfl) ?_
              refine s_bs (R := rRaw) SR81 YR22 (.n rfl) rfl rfl (.c (.t rfl) .n) rfl (by decide) ?_
              obtain ⟨x159, hx159, ho⟩ := bnd ho
              refine s_appr (R := (rInt .i64)) 2 1 0 SR81 YR22 hx159 (.n rfl) rfl rfl rfl rfl rfl (.t rfl) rfl (.t rfl) rfl rfl rfl rfl rfl ?_
              intro v160
              refine s_assign (.n rfl) rfl rfl (.t rfl) ?_
              refine s_nilq rfl ?_
              refine r_region ?_
              refine s_ar (.n rfl) rfl rfl (.t rfl) (.i (by decide) (by decide)) .add ?_
              refine s_move (.n rfl) rfl rfl (.t rfl) ?_
              cases ho
              exact s_nil (fun fr h s => And.intro rfl (Exists.intro [v160, .tuple ((untup (gh g153 2)) ++ [v157]), v156] (s.pick [0, 1, 2] ⟨rfl, rfl, rfl, rfl, rfl, rfl, trivial⟩ rfl (by decide))))
        · have ho := cnd0 ho hq96
          cases ho
          exact r_exit (fun fr h s => And.intro rfl (Exists.intro [(gh g86 0), .tuple ((untup (gh g86 1))), (gh g86 2)] (s.pick [0, 1, 2] ⟨rfl, rfl, rfl, rfl, trivial⟩ rfl (by decide))))
      · intro g169
        show ∀ fr h, St _ [(0, .val (rSlice (rInt .i64)) (p_0)), (7, .val (rPtr (rFn ktab (Int × Int) (Bool) (fun x => [.val (rInt .i64) (x.1), .val (rInt .i64) (x.2)]) (fun y => [.val rBool (y)]))) (y11)), (8, .raw ((gh g169 0))), (9, .raw ((gh g169 2)))] [((gh g169 0), .row rRaw ((untup (gh g169 1)))), (.undef, pack (rInt .i64) ((untup (gh g169 1))) t167.1), ((gh g169 2), .row (rInt .i64) (t167.2))] fr h → _
        show SRun _ _ _ _ _ _
        refine r_seq ?_
        refine r_region ?_
        refine s_move (.n rfl) rfl rfl (.t rfl) ?_
        refine s_len S22 (.n rfl) rfl rfl rfl rfl rfl (.t rfl) ?_
        obtain ⟨x173, hx173, ho⟩ := bnd ho
        refine s_mk S22 Y3 Z3 hx173 (.n rfl) rfl rfl (.t rfl) (.t rfl) ?_
        intro v174
        refine s_assign (.n rfl) rfl rfl (.t rfl) ?_
        refine s_nilq rfl ?_
        refine r_seq ?_
        refine r_seq ?_
        refine r_region ?_
        refine s_move (.n rfl) rfl rfl (.t rfl) ?_
        refine s_len S22 (.n rfl) rfl rfl rfl rfl rfl (.t rfl) ?_
        refine s_ar (.n rfl) rfl rfl (.t rfl) (.i (by decide) (by decide)) .sub ?_
        refine s_assign (.n rfl) rfl rfl (.t rfl) ?_
        refine s_nilq rfl ?_
        refine r_block ?_
        obtain ⟨t256, ht256, ho⟩ := bnd ho
        refine r_loop (σ := (Int × (List Int))) (τ := ((List Int))) (G := List AVal) (fun s g => ([(0, .val (rSlice (rInt .i64)) (p_0)), (7, .val (rPtr (rFn ktab (Int × Int) (Bool) (fun x => [.val (rInt .i64) (x.1), .val (rInt .i64) (x.2)]) (fun y => [.val rBool (y)]))) (y11)), (8, .raw ((gh g169 0))), (9, .raw ((gh g169 2))), (13, .raw v174), (14, .val (rInt .i64) (s.1))], [(v174, .row (rInt .i64) (s.2)), ((gh g169 0), .row rRaw ((untup (gh g169 1)))), (.undef, pack (rInt .i64) ((untup (gh g169 1))) t167.1), ((gh g169 2), .row (rInt .i64) (t167.2))])) (fun b => (.exit 4, fun g => ([(0, .val (rSlice (rInt .i64)) (p_0)), (7, .val (rPtr (rFn ktab (Int × Int) (Bool) (fun x => [.val (rInt .i64) (x.1), .val (rInt .i64) (x.2)]) (fun y => [.val rBool (y)]))) (y11)), (8, .raw ((gh g169 0))), (9, .raw ((gh g169 2))), (13, .raw v174)], [(v174, .row (rInt .i64) (b)), ((gh g169 0), .row rRaw ((untup (gh g169 1)))), (.undef, pack (rInt .i64) ((untup (gh g169 1))) t167.1), ((gh g169 2), .row (rInt .i64) (t167.2))]))) _ [] ht256 (fun fr h s => s.pick [0, 1, 2, 3] ⟨rfl, rfl, rfl, rfl, rfl, rfl, trivial⟩ rfl (by decide)) ?_ ?_ ?_
        · intro t
          exact (show (.exit 4 : AExit) ≠ .normal from fun e => by cases e)
        · clear ho
          intro s228 g229 r257 ho
          refine r_seq ?_
          refine r_seq ?_
          refine r_region ?_
          refine s_move (.n rfl) rfl rfl (.t rfl) ?_
          refine s_cmp (.n rfl) rfl rfl (.t rfl) (.i (by decide) (by decide)) .geq ?_
          refine s_nilq rfl ?_
          refine r_cond (.t rfl) (fun hq230 => ?_) (fun hq230 => ?_)
          · have ho := cnd1 ho hq230
            refine r_skipq rfl ?_
            refine r_seq ?_
            refine r_block ?_
            refine r_seq ?_
            refine r_seq ?_
            refine r_region ?_
            refine s_move (.n rfl) rfl rfl (.t rfl) ?_
            refine s_ar (.n rfl) rfl rfl (.t rfl) (.i (by decide) (by decide)) .add ?_
            refine s_assign (.n rfl) rfl rfl (.t rfl) ?_
            refine s_nilq rfl ?_
            refine r_block ?_
            obtain ⟨t251, ht251, ho⟩ := bnd ho
            refine r_loop (σ := (Int × (List Int))) (τ := ((List Int))) (G := List AVal) (fun s g => ([(0, .val (rSlice (rInt .i64)) (p_0)), (7, .val (rPtr (rFn ktab (Int × Int) (Bool) (fun x => [.val (rInt .i64) (x.1), .val (rInt .i64) (x.2)]) (fun y => [.val rBool (y)]))) (y11)), (8, .raw ((gh g169 0))), (9, .raw ((gh g169 2))), (13, .raw v174), (14, .val (rInt .i64) (s228.1)), (15, .val (rInt .i64) (s.1))], [(v174, .row (rInt .i64) (s.2)), ((gh g169 0), .row rRaw ((untup (gh g169 1)))), (.undef, pack (rInt .i64) ((untup (gh g169 1))) t167.1), ((gh g169 2), .row (rInt .i64) (t167.2))])) (fun b => (.exit 6, fun g => ([(0, .val (rSlice (rInt .i64)) (p_0)), (7, .val (rPtr (rFn ktab (Int × Int) (Bool) (fun x => [.val (rInt .i64) (x.1), .val (rInt .i64) (x.2)]) (fun y => [.val rBool (y)]))) (y11)), (8, .raw ((gh g169 0))), (9, .raw ((gh g169 2))), (13, .raw v174), (14, .val (rInt .i64) (s228.1))], [(v174, .row (rInt .i64) (b)), ((gh g169 0), .row rRaw ((untup (gh g169 1)))), (.undef, pack (rInt .i64) ((untup (gh g169 1))) t167.1), ((gh g169 2), .row (rInt .i64) (t167.2))]))) _ [] ht251 (fun fr h s => s.pick [0, 1, 2, 3] ⟨rfl, rfl, rfl, rfl, rfl, rfl, rfl, trivial⟩ rfl (by decide)) ?_ ?_ ?_
            · intro t
              exact (show (.exit 6 : AExit) ≠ .normal from fun e => by cases e)
            · clear ho
              intro s243 g244 r252 ho
              refine r_seq ?_
              refine r_seq ?_
              refine r_region ?_
              refine s_move (.n rfl) rfl rfl (.t rfl) ?_
              refine s_move (.n rfl) rfl rfl (.t rfl) ?_
              refine s_len S22 (.n rfl) rfl rfl rfl rfl rfl (.t rfl) ?_
              refine s_cmp (.n rfl) rfl rfl (.t rfl) (.t rfl) .lss ?_
              refine s_nilq rfl ?_
              refine r_cond (.t rfl) (fun hq245 => ?_) (fun hq245 => ?_)
              · have ho := cnd1 ho hq245
                refine r_skipq rfl ?_
                refine r_seq ?_
                refine r_block ?_
                refine r_seq ?_
                refine r_region ?_
                refine s_load U78 (.n rfl) rfl rfl (.t rfl) ?_
                refine s_move (.n rfl) rfl rfl (.t rfl) ?_
                refine s_move (.n rfl) rfl rfl (.t rfl) ?_
                obtain ⟨y246, hy246, ho⟩ := bnd ho
                refine s_callv hy246 (.n rfl) rfl rfl rfl (.t rfl) (.c (.t rfl) (.c (.t rfl) .n)) ?_
                show SOps _ _ _ _ _ _ _ _
                refine s_nilq rfl ?_
                refine r_cond (.t rfl) (fun hq247 => ?_) (fun hq247 => ?_)
                · have ho := cnd1 ho hq247
                  refine r_draw [5, 9] (by kernel_rfl) ?_
                  refine s_move (.n rfl) rfl rfl (.t rfl) ?_
                  refine s_move (.n rfl) rfl rfl (.t rfl) ?_
                  refine s_move (.n rfl) rfl rfl (.t rfl) ?_
                  refine s_move (.n rfl) rfl rfl (.t rfl) ?_
                  obtain ⟨x248, hx248, ho⟩ := bnd ho
                  refine s_idxo 0 S22 hx248 (.n rfl) rfl rfl (.t rfl) rfl (.t rfl) ?_
                  refine s_loado 0 (fun _ h => by cases h <;> rfl) U3 FOk.self (idx_inv hx248).2.2.2 (.n rfl) rfl rfl (.t rfl) rfl ?_
                  refine s_move (.n rfl) rfl rfl (.t rfl) ?_
                  refine s_move (.n rfl) rfl rfl (.t rfl) ?_
                  obtain ⟨x249, hx249, ho⟩ := bnd ho
                  refine s_idxo 0 S22 hx249 (.n rfl) rfl rfl (.t rfl) rfl (.t rfl) ?_
                  refine s_loado 0 (fun _ h => by cases h <;> rfl) U3 FOk.self (idx_inv hx249).2.2.2 (.n rfl) rfl rfl (.t rfl) rfl ?_
                  refine s_max (.n rfl) rfl rfl rfl rfl (.t rfl) (.t rfl) ?_
                  obtain ⟨x250, hx250, ho⟩ := bnd ho
                  refine s_idxo 0 S22 hx250 (.n rfl) rfl rfl (.t rfl) rfl (.t rfl) ?_
                  refine s_storeo 0 U3 FOk.self (idx_inv hx250).2.2.2 (.n rfl) rfl rfl (.t rfl) (.t rfl) rfl rfl ?_
                  refine s_nilq rfl ?_
                  refine r_region ?_
                  refine s_move (.n rfl) rfl rfl (.t rfl) ?_
                  refine s_ar (.n rfl) rfl rfl (.t rfl) (.i (by decide) (by decide)) .add ?_
                  refine s_assign (.n rfl) rfl rfl (.t rfl) ?_
                  cases ho
                  exact s_nil (fun fr h s => And.intro rfl (Exists.intro [] (s.pick [0, 1, 2, 3] ⟨rfl, rfl, rfl, rfl, rfl, rfl, rfl, trivial⟩ rfl (by decide))))
                · have ho := cnd0 ho hq247
                  refine r_skipq rfl ?_
                  refine r_region ?_
                  refine s_move (.n rfl) rfl rfl (.t rfl) ?_
                  refine s_ar (.n rfl) rfl rfl (.t rfl) (.i (by decide) (by decide)) .add ?_
                  refine s_assign (.n rfl) rfl rfl (.t rfl) ?_
                  cases ho
                  exact s_nil (fun fr h s => And.intro rfl (Exists.intro [] (s.pick [0, 1, 2, 3] ⟨rfl, rfl, rfl, rfl, rfl, rfl, rfl, trivial⟩ rfl (by decide))))
              · have ho := cnd0 ho hq245
                cases ho
                exact r_exit (fun fr h s => And.intro rfl (Exists.intro [] (s.pick [0, 1, 2, 3] ⟨rfl, rfl, rfl, rfl, rfl, rfl, trivial⟩ rfl (by decide))))
            · intro g253
              show ∀ fr h, St _ [(0, .val (rSlice (rInt .i64)) (p_0)), (7, .val (rPtr (rFn ktab (Int × Int) (Bool) (fun x => [.val (rInt .i64) (x.1), .val (rInt .i64) (x.2)]) (fun y => [.val rBool (y)]))) (y11)), (8, .raw ((gh g169 0))), (9, .raw ((gh g169 2))), (13, .raw v174), (14, .val (rInt .i64) (s228.1))] [(v174, .row (rInt .i64) (t251)), ((gh g169 0), .row rRaw ((untup (gh g169 1)))), (.undef, pack (rInt .i64) ((untup (gh g169 1))) t167.1), ((gh g169 2), .row (rInt .i64) (t167.2))] fr h → _
              show SRun _ _ _ _ _ _
              refine r_region ?_
              refine s_move (.n rfl) rfl rfl (.t rfl) ?_
              refine s_move (.n rfl) rfl rfl (.t rfl) ?_
              obtain ⟨x254, hx254, ho⟩ := bnd ho
              refine s_idxo 0 S22 hx254 (.n rfl) rfl rfl (.t rfl) rfl (.t rfl) ?_
              refine s_loado 0 (fun _ h => by cases h <;> rfl) U3 FOk.self (idx_inv hx254).2.2.2 (.n rfl) rfl rfl (.t rfl) rfl ?_
              refine s_ar (.n rfl) rfl rfl (.t rfl) (.i (by decide) (by decide)) .add ?_
              obtain ⟨x255, hx255, ho⟩ := bnd ho
              refine s_idxo 0 S22 hx255 (.n rfl) rfl rfl (.t rfl) rfl (.t rfl) ?_
              refine s_storeo 0 U3 FOk.self (idx_inv hx255).2.2.2 (.n rfl) rfl rfl (.t rfl) (.t rfl) rfl rfl ?_
              refine s_nilq rfl ?_
              refine r_region ?_
              refine s_move (.n rfl) rfl rfl (.t rfl) ?_
              refine s_ar (.n rfl) rfl rfl (.t rfl) (.i (by decide) (by decide)) .sub ?_
              refine s_assign (.n rfl) rfl rfl (.t rfl) ?_
              cases ho
              exact s_nil (fun fr h s => And.intro rfl (Exists.intro [] (s.pick [0, 1, 2, 3] ⟨rfl, rfl, rfl, rfl, rfl, rfl, trivial⟩ rfl (by decide))))
          · have ho := cnd0 ho hq230
            cases ho
            exact r_exit (fun fr h s => And.intro rfl (Exists.intro [] (s.pick [0, 1, 2, 3] ⟨rfl, rfl, rfl, rfl, rfl, trivial⟩ rfl (by decide))))
        · intro g258
          show ∀ fr h, St _ [(0, .val (rSlice (rInt .i64)) (p_0)), (7, .val (rPtr (rFn ktab (Int × Int) (Bool) (fun x => [.val (rInt .i64) (x.1), .val (rInt .i64) (x.2)]) (fun y => [.val rBool (y)]))) (y11)), (8, .raw ((gh g169 0))), (9, .raw ((gh g169 2))), (13, .raw v174)] [(v174, .row (rInt .i64) (t256)), ((gh g169 0), .row rRaw ((untup (gh g169 1)))), (.undef, pack (rInt .i64) ((untup (gh g169 1))) t167.1), ((gh g169 2), .row (rInt .i64) (t167.2))] fr h → _
          show SRun _ _ _ _ _ _
          refine r_seq ?_
          refine r_region ?_
          refine s_st (st_nilrow (rInt .i64)) ?_
          refine s_assign (.n rfl) rfl rfl .nilr ?_
          refine s_nilq rfl ?_
          refine r_seq ?_
          refine r_region ?_
          refine s_move (.n rfl) rfl rfl (.t rfl) ?_
          refine s_lenr (R := (rInt .i64)) 2 3 SR81 (.n rfl) rfl rfl rfl rfl rfl (.t rfl) rfl rfl ?_
          refine s_assign (.n rfl) rfl rfl (.t rfl) ?_
          refine s_nilq rfl ?_
          refine r_seq ?_
          refine r_seq ?_
          refine r_region ?_
          refine s_move (.n rfl) rfl rfl (.t rfl) ?_
          refine s_len S22 (.n rfl) rfl rfl rfl rfl rfl (.t rfl) ?_
          refine s_move (.n rfl) rfl rfl (.i (by decide) (by decide)) ?_
          refine s_nilq rfl ?_
          refine r_block ?_
          obtain ⟨t308, ht308, ho⟩ := bnd ho
          refine r_loop (σ := ((List Int) × Int × Int)) (τ := ((List Int))) (G := List AVal) (fun s g => ([(7, .val (rPtr (rFn ktab (Int × Int) (Bool) (fun x => [.val (rInt .i64) (x.1), .val (rInt .i64) (x.2)]) (fun y => [.val rBool (y)]))) (y11)), (9, .raw ((gh g169 2))), (13, .raw v174), (16, .raw ((gh g 0))), (17, .val (rInt .i64) (s.2.1)), (112, .val (rInt .i64) ((lenI p_0))), (113, .val (rInt .i64) (s.2.2))], [(v174, .row (rInt .i64) (t256)), ((gh g169 2), .row (rInt .i64) (t167.2)), ((gh g 0), .row (rInt .i64) (s.1))])) (fun b => (.exit 8, fun g => ([(9, .raw ((gh g169 2))), (16, .raw ((gh g 0)))], [((gh g169 2), .row (rInt .i64) (t167.2)), ((gh g 0), .row (rInt .i64) (b))]))) _ [.nilslice] ht308 (fun fr h s => s.pick [1, 4, 0] ⟨rfl, rfl, rfl, rfl, rfl, rfl, rfl, trivial⟩ rfl (by decide)) ?_ ?_ ?_
          · intro t
            exact (show (.exit 8 : AExit) ≠ .normal from fun e => by cases e)
          · clear ho
            intro s280 g281 r309 ho
            refine r_seq ?_
            refine r_region ?_
            refine s_cmp (.n rfl) rfl rfl (.t rfl) (.t rfl) .lss ?_
            refine s_nilq rfl ?_
            refine r_seq ?_
            refine r_cond (.t rfl) (fun hq285 => ?_) (fun hq285 => ?_)
            · have ho := cnd1 ho hq285
              refine r_skipq rfl ?_
              refine r_seq ?_
              refine r_block ?_
              refine r_seq ?_
              refine r_region ?_
              refine s_move (.n rfl) rfl rfl (.t rfl) ?_
              refine s_assign (.n rfl) rfl rfl (.t rfl) ?_
              refine s_nilq rfl ?_
              refine r_seq ?_
              refine r_draw [3, 17] (by kernel_rfl) ?_
              refine s_move (.n rfl) rfl rfl (.t rfl) ?_
              refine s_move (.n rfl) rfl rfl (.t rfl) ?_
              obtain ⟨x291, hx291, ho⟩ := bnd ho
              refine s_idxo 0 S22 hx291 (.n rfl) rfl rfl (.t rfl) rfl (.t rfl) ?_
              refine s_loado 0 (fun _ h => by cases h <;> rfl) U3 FOk.self (idx_inv hx291).2.2.2 (.n rfl) rfl rfl (.t rfl) rfl ?_
              refine s_move (.n rfl) rfl rfl (.t rfl) ?_
              refine s_cmp (.n rfl) rfl rfl (.t rfl) (.t rfl) .eql ?_
              refine s_move (.n rfl) rfl rfl (.t rfl) ?_
              rcases Bool.eq_false_or_eq_true ((x291 == s280.2.1)) with hb292 | hb292
              · have ho := cnd1 ho hb292
                refine s_move (.g rfl rfl (gt1 hb292)) rfl rfl (.t rfl) ?_
                refine s_leno 2 S22 (.g rfl rfl (gt1 hb292)) rfl rfl rfl rfl rfl (.t rfl) rfl ?_
                refine s_cmp (.g rfl rfl (gt1 hb292)) rfl rfl (.t rfl) (.i (by decide) (by decide)) .eql ?_
                refine s_move (.g rfl rfl (gt1 hb292)) rfl rfl (.t rfl) ?_
                rcases Bool.eq_false_or_eq_true (((lenI s280.1) == 0)) with hb293 | hb293
                · have ho := cnd1 ho hb293
                  refine s_skip (.g rfl rfl (gf1 hb293)) rfl ?_
                  refine s_skip (.g rfl rfl (gf1 hb293)) rfl ?_
                  refine s_skip (.g rfl rfl (gf1 hb293)) rfl ?_
                  refine s_skip (.g rfl rfl (gf1 hb293)) rfl ?_
                  refine s_skip (.g rfl rfl (gf1 hb293)) rfl ?_
                  refine s_skip (.g rfl rfl (gf1 hb293)) rfl ?_
                  refine s_skip (.g rfl rfl (gf1 hb293)) rfl ?_
                  refine s_skip (.g rfl rfl (gf1 hb293)) rfl ?_
                  refine s_skip (.g rfl rfl (gf1 hb293)) rfl ?_
                  refine s_pk1 hb293 (.g rfl rfl (gt1 hb292)) rfl rfl (.t rfl) .b ?_
                  refine s_pk1 hb292 (.n rfl) rfl rfl (.t rfl) (.t rfl) ?_
                  refine s_nilq rfl ?_
                  refine r_cond (.t rfl) (fun _ => ?_) (fun hq => by cases hq)
                  refine r_seq ?_
                  refine r_region ?_
                  refine s_move (.n rfl) rfl rfl (.t rfl) ?_
                  refine s_move (.n rfl) rfl rfl (.t rfl) ?_
                  refine s_bs (R := (rInt .i64)) S22 Y3 (.n rfl) rfl rfl (.c (.t rfl) .n) rfl (by decide) ?_
                  obtain ⟨x295, hx295, ho⟩ := bnd ho
                  refine s_app 2 S22 Y3 hx295 (.n rfl) rfl rfl rfl rfl rfl (.t rfl) rfl (.t rfl) rfl ?_
                  intro v296
                  refine s_assign (.n rfl) rfl rfl (.t rfl) ?_
                  refine s_nilq rfl ?_
                  refine r_region ?_
                  refine s_move (.n rfl) rfl rfl (.t rfl) ?_
                  refine s_ar (.n rfl) rfl rfl (.t rfl) (.i (by decide) (by decide)) .sub ?_
                  refine s_assign (.n rfl) rfl rfl (.t rfl) ?_
                  refine s_nilq rfl ?_
                  refine r_region ?_
                  refine s_ar (.n rfl) rfl rfl (.t rfl) (.i (by decide) (by decide)) .add ?_
                  refine s_move (.n rfl) rfl rfl (.t rfl) ?_
                  cases ho
                  exact s_nil (fun fr h s => And.intro rfl (Exists.intro [v296] (s.pick [1, 2, 0] ⟨rfl, rfl, rfl, rfl, rfl, rfl, rfl, trivial⟩ rfl (by decide))))
                · have ho := cnd0 ho hb293
                  refine s_load U78 (.g rfl rfl (gf0 hb293)) rfl rfl (.t rfl) ?_
                  refine s_move (.g rfl rfl (gf0 hb293)) rfl rfl (.t rfl) ?_
                  refine s_move (.g rfl rfl (gf0 hb293)) rfl rfl (.t rfl) ?_
                  refine s_leno 2 S22 (.g rfl rfl (gf0 hb293)) rfl rfl rfl rfl rfl (.t rfl) rfl ?_
                  refine s_ar (.g rfl rfl (gf0 hb293)) rfl rfl (.t rfl) (.i (by decide) (by decide)) .sub ?_
                  obtain ⟨x298, hx298, ho⟩ := bnd ho
                  refine s_idxo 2 S22 hx298 (.g rfl rfl (gf0 hb293)) rfl rfl (.t rfl) rfl (.t rfl) ?_
                  refine s_loado 2 (fun _ h => by cases h <;> rfl) U3 FOk.self (idx_inv hx298).2.2.2 (.g rfl rfl (gf0 hb293)) rfl rfl (.t rfl) rfl ?_
                  refine s_move (.g rfl rfl (gf0 hb293)) rfl rfl (.t rfl) ?_
                  obtain ⟨y299, hy299, ho⟩ := bnd ho
                  refine s_callv hy299 (.g rfl rfl (gf0 hb293)) rfl rfl rfl (.t rfl) (.c (.t rfl) (.c (.t rfl) .n)) ?_
                  show SOps _ _ _ _ _ _ _ _
                  refine s_pk0 hb293 (.g rfl rfl (gt1 hb292)) rfl rfl (.t rfl) (.t rfl) ?_
                  refine s_pk1 hb292 (.n rfl) rfl rfl (.t rfl) (.t rfl) ?_
                  refine s_nilq rfl ?_
                  refine r_cond (.t rfl) (fun hq300 => ?_) (fun hq300 => ?_)
                  · have ho := cnd1 ho hq300
                    refine r_seq ?_
                    refine r_region ?_
                    refine s_move (.n rfl) rfl rfl (.t rfl) ?_
                    refine s_move (.n rfl) rfl rfl (.t rfl) ?_
                    refine s_bs (R := (rInt .i64)) S22 Y3 (.n rfl) rfl rfl (.c (.t rfl) .n) rfl (by decide) ?_
                    obtain ⟨x301, hx301, ho⟩ := bnd ho
                    refine s_app 2 S22 Y3 hx301 (.n rfl) rfl rfl rfl rfl rfl (.t rfl) rfl (.t rfl) rfl ?_
                    intro v302
                    refine s_assign (.n rfl) rfl rfl (.t rfl) ?_
                    refine s_nilq rfl ?_
                    refine r_region ?_
                    refine s_move (.n rfl) rfl rfl (.t rfl) ?_
                    refine s_ar (.n rfl) rfl rfl (.t rfl) (.i (by decide) (by decide)) .sub ?_
                    refine s_assign (.n rfl) rfl rfl (.t rfl) ?_
                    refine s_nilq rfl ?_
                    refine r_region ?_
                    refine s_ar (.n rfl) rfl rfl (.t rfl) (.i (by decide) (by decide)) .add ?_
                    refine s_move (.n rfl) rfl rfl (.t rfl) ?_
                    cases ho
                    exact s_nil (fun fr h s => And.intro rfl (Exists.intro [v302] (s.pick [1, 2, 0] ⟨rfl, rfl, rfl, rfl, rfl, rfl, rfl, trivial⟩ rfl (by decide))))
                  · have ho := cnd0 ho hq300
                    refine r_skipq rfl ?_
                    refine r_region ?_
                    refine s_ar (.n rfl) rfl rfl (.t rfl) (.i (by decide) (by decide)) .add ?_
                    refine s_move (.n rfl) rfl rfl (.t rfl) ?_
                    cases ho
                    exact s_nil (fun fr h s => And.intro rfl (Exists.intro [(gh g281 0)] (s.pick [0, 1, 2] ⟨rfl, rfl, rfl, rfl, rfl, rfl, rfl, trivial⟩ rfl (by decide))))
              · have ho := cnd0 ho hb292
                refine s_skip (.g rfl rfl (gt0 hb292)) rfl ?_
                refine s_skip (.g rfl rfl (gt0 hb292)) rfl ?_
                refine s_skip (.g rfl rfl (gt0 hb292)) rfl ?_
                refine s_skip (.g rfl rfl (gt0 hb292)) rfl ?_
                refine s_skip (.u rfl rfl rfl) rfl ?_
                refine s_skip (.u rfl rfl rfl) rfl ?_
                refine s_skip (.u rfl rfl rfl) rfl ?_
                refine s_skip (.u rfl rfl rfl) rfl ?_
                refine s_skip (.u rfl rfl rfl) rfl ?_
                refine s_skip (.u rfl rfl rfl) rfl ?_
                refine s_skip (.u rfl rfl rfl) rfl ?_
                refine s_skip (.u rfl rfl rfl) rfl ?_
                refine s_skip (.u rfl rfl rfl) rfl ?_
                refine s_skip (.g rfl rfl (gt0 hb292)) rfl ?_
                refine s_pk0 hb292 (.n rfl) rfl rfl (.t rfl) .b ?_
                refine s_nilq rfl ?_
                refine r_cond (.t rfl) (fun hq => by cases hq) (fun _ => ?_)
                refine r_skipq rfl ?_
                refine r_region ?_
                refine s_ar (.n rfl) rfl rfl (.t rfl) (.i (by decide) (by decide)) .add ?_
                refine s_move (.n rfl) rfl rfl (.t rfl) ?_
                cases ho
                exact s_nil (fun fr h s => And.intro rfl (Exists.intro [(gh g281 0)] (s.pick [0, 1, 2] ⟨rfl, rfl, rfl, rfl, rfl, rfl, rfl, trivial⟩ rfl (by decide))))
            · have ho := cnd0 ho hq285
              cases ho
              exact r_exit (fun fr h s => And.intro rfl (Exists.intro [(gh g281 0)] (s.pick [1, 2] ⟨rfl, rfl, trivial⟩ rfl (by decide))))
          · intro g310
            show ∀ fr h, St _ [(9, .raw ((gh g169 2))), (16, .raw ((gh g310 0)))] [((gh g169 2), .row (rInt .i64) (t167.2)), ((gh g310 0), .row (rInt .i64) (t308))] fr h → _
            show SRun _ _ _ _ _ _
            refine r_seq ?_
            refine r_region ?_
            refine s_move (.n rfl) rfl rfl (.t rfl) ?_
            refine s_move (.n rfl) rfl rfl (.t rfl) ?_
            refine s_assign (.n rfl) rfl rfl (.t rfl) ?_
            refine s_assign (.n rfl) rfl rfl (.t rfl) ?_
            refine s_assign (.n rfl) rfl rfl (.i (by decide) (by decide)) ?_
            refine s_nilq rfl ?_
            cases ho
            exact r_ret (ret_of (.inr rfl) (.r 0 rfl rfl (.r 1 rfl rfl (.v rfl .n))) (by decide))
theorem g_ref09_in_ok {x_0 : Int} {low_1 : Int} {high_2 : Int} {out : (Bool)} (ho : g_ref09_in x_0 low_1 high_2 = some out) : Fun ktab 40 [.val (rInt .i64) x_0, .val (rInt .i64) low_1, .val (rInt .i64) high_2] [.val rBool (out)] := by
  refine fun_of (F := Try.f40) (by rfl) (by rfl) (by rfl) (fun C hC => ?_)
  delta g_ref09_in at ho
  refine r_seq ?_
  refine r_region ?_
  refine s_assign (.n rfl) rfl rfl .b ?_
  refine s_nilq rfl ?_
  refine r_seq ?_
  obtain ⟨c2, hc2, ho⟩ := bnd ho
  refine r_cut (τ := (Bool)) (G := Unit) (fun t => (.normal, fun _ => ([(6, .val rBool (t))], []))) (t := c2) ?_ ?_
  · have ho := hc2
    clear hc2
    refine r_region ?_
    refine s_move (.n rfl) rfl rfl (.t rfl) ?_
    refine s_move (.n rfl) rfl rfl (.t rfl) ?_
    refine s_cmp (.n rfl) rfl rfl (.t rfl) (.t rfl) .geq ?_
    refine s_move (.n rfl) rfl rfl (.t rfl) ?_
    rcases Bool.eq_false_or_eq_true ((decide (x_0 ≥ low_1))) with hb3 | hb3
    · have ho := cnd1 ho hb3
      refine s_move (.g rfl rfl (gt1 hb3)) rfl rfl (.t rfl) ?_
      refine s_move (.g rfl rfl (gt1 hb3)) rfl rfl (.t rfl) ?_
      refine s_cmp (.g rfl rfl (gt1 hb3)) rfl rfl (.t rfl) (.t rfl) .leq ?_
      refine s_pk1 hb3 (.n rfl) rfl rfl (.t rfl) (.t rfl) ?_
      refine s_assign (.n rfl) rfl rfl (.t rfl) ?_
      cases ho
      exact s_nil (fun fr h s => And.intro rfl (Exists.intro () (s.pick [] ⟨rfl, trivial⟩ rfl (by decide))))
    · have ho := cnd0 ho hb3
      refine s_skip (.g rfl rfl (gt0 hb3)) rfl ?_
      refine s_skip (.g rfl rfl (gt0 hb3)) rfl ?_
      refine s_skip (.g rfl rfl (gt0 hb3)) rfl ?_
      refine s_pk0 hb3 (.n rfl) rfl rfl (.t rfl) .b ?_
      refine s_assign (.n rfl) rfl rfl (.t rfl) ?_
      cases ho
      exact s_nil (fun fr h s => And.intro rfl (Exists.intro () (s.pick [] ⟨rfl, trivial⟩ rfl (by decide))))
  · intro _
    show SRun _ _ _ _ _ _
    cases ho
    exact r_ret (ret_of (.inr rfl) (.v rfl .n) (by decide))
theorem g_ref09_Order_ok {l_0 : (List Int)} {out : (Bool)} (ho : g_ref09_Order l_0 = some out) : Fun ktab 14 [.val (rSlice (rInt .i64)) l_0] [.val rBool (out)] := by
  refine fun_of (F := Try.f14) (by rfl) (by rfl) (by rfl) (fun C hC => ?_)
  delta g_ref09_Order at ho
  refine r_seq ?_
  refine r_region ?_
  refine s_assign (.n rfl) rfl rfl .b ?_
  refine s_nilq rfl ?_
  refine r_seq ?_
  refine r_region ?_
  refine s_move (.n rfl) rfl rfl (.t rfl) ?_
  refine s_len S22 (.n rfl) rfl rfl rfl rfl rfl (.t rfl) ?_
  obtain ⟨x1, hx1, ho⟩ := bnd ho
  refine s_mk S84 Y4 Z4 hx1 (.n rfl) rfl rfl (.t rfl) (.t rfl) ?_
  intro v2
  refine s_assign (.n rfl) rfl rfl (.t rfl) ?_
  refine s_nilq rfl ?_
  refine r_seq ?_
  refine r_seq ?_
  refine r_region ?_
  refine s_assign (.n rfl) rfl rfl (.i (by decide) (by decide)) ?_
  refine s_nilq rfl ?_
  refine r_block ?_
  obtain ⟨t51, ht51, ho⟩ := bnd ho
  refine r_loop (σ := (Int × (List Bool))) (τ := ((List Bool)) ⊕ (Bool × (List Bool))) (G := List AVal) (fun s g => ([(0, .val (rSlice (rInt .i64)) (l_0)), (3, .raw v2), (4, .val (rInt .i64) (s.1))], [(v2, .row rBool (s.2))])) (altX (fun b => (.exit 0, fun g => ([(0, .val (rSlice (rInt .i64)) (l_0))], []))) (fun b => (.ret, fun g => ([(2, .val rBool (b.1))], [])))) _ [] ht51 (fun fr h s => s.pick [0] ⟨rfl, rfl, rfl, trivial⟩ rfl (by decide)) ?_ ?_ ?_
  · intro t
    rcases t with t | t
    · exact (show (.exit 0 : AExit) ≠ .normal from fun e => by cases e)
    · exact (show (.ret : AExit) ≠ .normal from fun e => by cases e)
  · clear ho
    intro s34 g35 r52 ho
    refine r_seq ?_
    refine r_seq ?_
    refine r_region ?_
    refine s_move (.n rfl) rfl rfl (.t rfl) ?_
    refine s_move (.n rfl) rfl rfl (.t rfl) ?_
    refine s_len S22 (.n rfl) rfl rfl rfl rfl rfl (.t rfl) ?_
    refine s_cmp (.n rfl) rfl rfl (.t rfl) (.t rfl) .lss ?_
    refine s_nilq rfl ?_
    refine r_cond (.t rfl) (fun hq36 => ?_) (fun hq36 => ?_)
    · have ho := cnd1 ho hq36
      refine r_skipq rfl ?_
      refine r_seq ?_
      refine r_block ?_
      refine r_seq ?_
      refine r_seq ?_
      refine r_region ?_
      refine s_move (.n rfl) rfl rfl (.t rfl) ?_
      refine s_move (.n rfl) rfl rfl (.t rfl) ?_
      obtain ⟨x42, hx42, ho⟩ := bnd ho
      refine s_idx S22 hx42 (.n rfl) rfl rfl (.t rfl) (.t rfl) ?_
      refine s_load U3 (.n rfl) rfl rfl (.t rfl) ?_
      refine s_move (.n rfl) rfl rfl (.t rfl) ?_
      refine s_len S22 (.n rfl) rfl rfl rfl rfl rfl (.t rfl) ?_
      refine s_ar (.n rfl) rfl rfl (.t rfl) (.i (by decide) (by decide)) .sub ?_
      obtain ⟨y43, hy43, ho⟩ := bnd ho
      refine s_calll (g_ref09_in_ok hy43) (.v flat_bool .n) rfl (.n rfl) rfl rfl rfl .f (.c (.o (.t rfl)) (.c (.o (.i (by decide) (by decide))) (.c (.o (.t rfl)) .n))) ?_
      show SOps _ _ _ _ _ _ _ _
      refine s_not (.n rfl) rfl rfl (.t rfl) ?_
      refine s_move (.n rfl) rfl rfl (.t rfl) ?_
      rcases Bool.eq_false_or_eq_true ((!y43)) with hb44 | hb44
      · have ho := cnd1 ho hb44
        refine s_skip (.g rfl rfl (gf1 hb44)) rfl ?_
        refine s_skip (.g rfl rfl (gf1 hb44)) rfl ?_
        refine s_skip (.g rfl rfl (gf1 hb44)) rfl ?_
        refine s_skip (.g rfl rfl (gf1 hb44)) rfl ?_
        refine s_skip (.g rfl rfl (gf1 hb44)) rfl ?_
        refine s_skip (.g rfl rfl (gf1 hb44)) rfl ?_
        refine s_skip (.g rfl rfl (gf1 hb44)) rfl ?_
        refine s_pk1 hb44 (.n rfl) rfl rfl (.t rfl) .b ?_
        refine s_nilq rfl ?_
        refine r_cond (.t rfl) (fun _ => ?_) (fun hq => by cases hq)
        refine r_seq ?_
        refine r_region ?_
        refine s_assign (.n rfl) rfl rfl .b ?_
        refine s_nilq rfl ?_
        cases ho
        exact r_ret (fun fr h s => And.intro rfl (Exists.intro [] (s.pick [] ⟨rfl, trivial⟩ rfl (by decide))))
      · have ho := cnd0 ho hb44
        refine s_move (.g rfl rfl (gf0 hb44)) rfl rfl (.t rfl) ?_
        refine s_move (.g rfl rfl (gf0 hb44)) rfl rfl (.t rfl) ?_
        refine s_move (.g rfl rfl (gf0 hb44)) rfl rfl (.t rfl) ?_
        obtain ⟨x46, hx46, ho⟩ := bnd ho
        refine s_idx S22 hx46 (.g rfl rfl (gf0 hb44)) rfl rfl (.t rfl) (.t rfl) ?_
        refine s_load U3 (.g rfl rfl (gf0 hb44)) rfl rfl (.t rfl) ?_
        obtain ⟨x47, hx47, ho⟩ := bnd ho
        refine s_idxo 0 S84 hx47 (.g rfl rfl (gf0 hb44)) rfl rfl (.t rfl) rfl (.t rfl) ?_
        refine s_loado 0 (fun _ h => by cases h <;> rfl) U4 FOk.self (idx_inv hx47).2.2.2 (.g rfl rfl (gf0 hb44)) rfl rfl (.t rfl) rfl ?_
        refine s_pk0 hb44 (.n rfl) rfl rfl (.t rfl) (.t rfl) ?_
        refine s_nilq rfl ?_
        refine r_cond (.t rfl) (fun hq48 => ?_) (fun hq48 => ?_)
        · have ho := cnd1 ho hq48
          refine r_seq ?_
          refine r_region ?_
          refine s_assign (.n rfl) rfl rfl .b ?_
          refine s_nilq rfl ?_
          cases ho
          exact r_ret (fun fr h s => And.intro rfl (Exists.intro [] (s.pick [] ⟨rfl, trivial⟩ rfl (by decide))))
        · have ho := cnd0 ho hq48
          refine r_skipq rfl ?_
          refine r_region ?_
          refine s_move (.n rfl) rfl rfl (.t rfl) ?_
          refine s_move (.n rfl) rfl rfl (.t rfl) ?_
          refine s_move (.n rfl) rfl rfl (.t rfl) ?_
          obtain ⟨x49, hx49, ho⟩ := bnd ho
          refine s_idx S22 hx49 (.n rfl) rfl rfl (.t rfl) (.t rfl) ?_
          refine s_load U3 (.n rfl) rfl rfl (.t rfl) ?_
          obtain ⟨x50, hx50, ho⟩ := bnd ho
          refine s_idxo 0 S84 hx50 (.n rfl) rfl rfl (.t rfl) rfl (.t rfl) ?_
          refine s_storeo 0 U4 FOk.self (idx_inv hx50).2.2.2 (.n rfl) rfl rfl (.t rfl) .b rfl rfl ?_
          refine s_nilq rfl ?_
          refine r_region ?_
          refine s_move (.n rfl) rfl rfl (.t rfl) ?_
          refine s_ar (.n rfl) rfl rfl (.t rfl) (.i (by decide) (by decide)) .add ?_
          refine s_assign (.n rfl) rfl rfl (.t rfl) ?_
          cases ho
          exact s_nil (fun fr h s => And.intro rfl (Exists.intro [] (s.pick [0] ⟨rfl, rfl, rfl, trivial⟩ rfl (by decide))))
    · have ho := cnd0 ho hq36
      cases ho
      exact r_exit (fun fr h s => And.intro rfl (Exists.intro [] (s.pick [] ⟨rfl, trivial⟩ rfl (by decide))))
  · clear ht51
    rcases t51 with b53 | b54
    · have ho := alt_l ho
      intro g55
      show ∀ fr h, St _ [(0, .val (rSlice (rInt .i64)) (l_0))] [] fr h → _
      show SRun _ _ _ _ _ _
      refine r_seq ?_
      refine r_region ?_
      refine s_move (.n rfl) rfl rfl (.t rfl) ?_
      refine s_len S22 (.n rfl) rfl rfl rfl rfl rfl (.t rfl) ?_
      refine s_cmp (.n rfl) rfl rfl (.t rfl) (.i (by decide) (by decide)) .leq ?_
      refine s_assign (.n rfl) rfl rfl (.t rfl) ?_
      refine s_nilq rfl ?_
      cases ho
      exact r_ret (ret_of (.inr rfl) (.v rfl .n) (by decide))
    · have ho := alt_r ho
      intro g56
      show ∀ fr h, St _ [(2, .val rBool (b54.1))] [] fr h → _
      cases ho
      exact id (ret_of (.inr rfl) (.v rfl .n) (by decide))
theorem g_ref09_InWay_ok {l_0 : (List Int)} {through_1 : Bool} {i_2 : Int} {j_3 : Int} {out : (Bool)} (ho : g_ref09_InWay l_0 through_1 i_2 j_3 = some out) : Fun ktab 41 [.val (rSlice (rInt .i64)) l_0, .val rBool through_1, .val (rInt .i64) i_2, .val (rInt .i64) j_3] [.val rBool (out)] := by
  refine fun_of (F := Try.f41) (by rfl) (by rfl) (by rfl) (fun C hC => ?_)
  delta g_ref09_InWay at ho
  refine r_seq ?_
  refine r_region ?_
  refine s_assign (.n rfl) rfl rfl .b ?_
  refine s_nilq rfl ?_
  refine r_seq ?_
  refine r_seq ?_
  refine r_region ?_
  refine s_move (.n rfl) rfl rfl (.t rfl) ?_
  refine s_nilq rfl ?_
  refine r_cond (.t rfl) (fun hq1 => ?_) (fun hq1 => ?_)
  · have ho := cnd1 ho hq1
    refine r_seq ?_
    refine r_draw [] (by kernel_rfl) ?_
    refine s_move (.n rfl) rfl rfl (.t rfl) ?_
    refine s_move (.n rfl) rfl rfl (.t rfl) ?_
    obtain ⟨x2, hx2, ho⟩ := bnd ho
    refine s_idx S22 hx2 (.n rfl) rfl rfl (.t rfl) (.t rfl) ?_
    refine s_load U3 (.n rfl) rfl rfl (.t rfl) ?_
    refine s_move (.n rfl) rfl rfl (.t rfl) ?_
    refine s_move (.n rfl) rfl rfl (.t rfl) ?_
    obtain ⟨x3, hx3, ho⟩ := bnd ho
    refine s_idx S22 hx3 (.n rfl) rfl rfl (.t rfl) (.t rfl) ?_
    refine s_load U3 (.n rfl) rfl rfl (.t rfl) ?_
    refine s_cmp (.n rfl) rfl rfl (.t rfl) (.t rfl) .lss ?_
    refine s_assign (.n rfl) rfl rfl (.t rfl) ?_
    refine s_nilq rfl ?_
    cases ho
    exact r_ret (ret_of (.inr rfl) (.v rfl .n) (by decide))
  · have ho := cnd0 ho hq1
    refine r_skipq rfl ?_
    refine r_seq ?_
    refine r_draw [] (by kernel_rfl) ?_
    refine s_move (.n rfl) rfl rfl (.t rfl) ?_
    refine s_move (.n rfl) rfl rfl (.t rfl) ?_
    obtain ⟨x4, hx4, ho⟩ := bnd ho
    refine s_idx S22 hx4 (.n rfl) rfl rfl (.t rfl) (.t rfl) ?_
    refine s_load U3 (.n rfl) rfl rfl (.t rfl) ?_
    refine s_move (.n rfl) rfl rfl (.t rfl) ?_
    refine s_move (.n rfl) rfl rfl (.t rfl) ?_
    obtain ⟨x5, hx5, ho⟩ := bnd ho
    refine s_idx S22 hx5 (.n rfl) rfl rfl (.t rfl) (.t rfl) ?_
    refine s_load U3 (.n rfl) rfl rfl (.t rfl) ?_
    refine s_cmp (.n rfl) rfl rfl (.t rfl) (.t rfl) .lss ?_
    refine s_assign (.n rfl) rfl rfl (.t rfl) ?_
    refine s_nilq rfl ?_
    cases ho
    exact r_ret (ret_of (.inr rfl) (.v rfl .n) (by decide))
theorem g_depot_Proves_1_ok {i_0 : Int} {p_1 : ((Int × Int) → Option (Bool))} {p_2 : Int} {out : (Bool)} (ho : g_depot_Proves_1 i_0 p_1 p_2 = some out) : Fun ktab 57 [.val (rInt .i64) i_0, .val (rPtr (rFn ktab (Int × Int) (Bool) (fun x => [.val (rInt .i64) (x.1), .val (rInt .i64) (x.2)]) (fun y => [.val rBool (y)]))) p_1, .val (rPtr (rInt .i64)) p_2] [.val rBool (out)] := by
  refine fun_of (F := Try.f57) (by rfl) (by rfl) (by rfl) (fun C hC => ?_)
  delta g_depot_Proves_1 at ho
  refine r_seq ?_
  refine r_region ?_
  refine s_assign (.n rfl) rfl rfl .b ?_
  refine s_nilq rfl ?_
  refine r_seq ?_
  refine r_region ?_
  refine s_load U78 (.n rfl) rfl rfl (.t rfl) ?_
  refine s_move (.n rfl) rfl rfl (.t rfl) ?_
  refine s_load U3 (.n rfl) rfl rfl (.t rfl) ?_
  obtain ⟨y1, hy1, ho⟩ := bnd ho
  refine s_callv hy1 (.n rfl) rfl rfl rfl (.t rfl) (.c (.t rfl) (.c (.t rfl) .n)) ?_
  show SOps _ _ _ _ _ _ _ _
  refine s_not (.n rfl) rfl rfl (.t rfl) ?_
  refine s_assign (.n rfl) rfl rfl (.t rfl) ?_
  refine s_nilq rfl ?_
  cases ho
  exact r_ret (ret_of (.inr rfl) (.v rfl .n) (by decide))
theorem g_depot_Proves_ok {p_0 : (List Int)} {p_1 : Bool} {p_2 : Int} {p_3 : (List Int)} {out : (Bool)} (ho : g_depot_Proves p_0 p_1 p_2 p_3 = some out) : Fun ktab 28 [.val (rSlice (rInt .i64)) p_0, .val rBool p_1, .val (rInt .i64) p_2, .val (rSlice (rInt .i64)) p_3] [.val rBool (out)] := by
  refine fun_of (F := Try.f28) (by rfl) (by rfl) (by rfl) (fun C hC => ?_)
  delta g_depot_Proves at ho
  refine r_seq ?_
  refine r_region ?_
  refine s_assign (.n rfl) rfl rfl .b ?_
  refine s_nilq rfl ?_
  refine r_seq ?_
  refine r_seq ?_
  obtain ⟨c5, hc5, ho⟩ := bnd ho
  refine r_cut (τ := (Bool)) (G := Unit) (fun t => (.normal, fun _ => ([(0, .val (rSlice (rInt .i64)) (p_0)), (1, .val rBool (p_1)), (3, .val (rSlice (rInt .i64)) (p_3)), (29, .val rBool (t))], []))) (t := c5) ?_ ?_
  · have ho := hc5
    clear hc5
    refine r_region ?_
    refine s_move (.n rfl) rfl rfl (.t rfl) ?_
    refine s_len S22 (.n rfl) rfl rfl rfl rfl rfl (.t rfl) ?_
    refine s_cmp (.n rfl) rfl rfl (.t rfl) (.i (by decide) (by decide)) .gtr ?_
    refine s_move (.n rfl) rfl rfl (.t rfl) ?_
    rcases Bool.eq_false_or_eq_true ((decide ((lenI p_0) > 200))) with hb6 | hb6
    · have ho := cnd1 ho hb6
      refine s_skip (.g rfl rfl (gf1 hb6)) rfl ?_
      refine s_skip (.g rfl rfl (gf1 hb6)) rfl ?_
      refine s_skip (.g rfl rfl (gf1 hb6)) rfl ?_
      refine s_pk1 hb6 (.n rfl) rfl rfl (.t rfl) .b ?_
      refine s_move (.n rfl) rfl rfl (.t rfl) ?_
      refine s_skip (.g rfl rfl rfl) rfl ?_
      refine s_skip (.g rfl rfl rfl) rfl ?_
      refine s_pick1 (.n rfl) rfl rfl (.t rfl) .b ?_
      refine s_move (.n rfl) rfl rfl (.t rfl) ?_
      refine s_skip (.g rfl rfl rfl) rfl ?_
      refine s_skip (.g rfl rfl rfl) rfl ?_
      refine s_skip (.g rfl rfl rfl) rfl ?_
      refine s_skip (.g rfl rfl rfl) rfl ?_
      refine s_pick1 (.n rfl) rfl rfl (.t rfl) .b ?_
      cases ho
      exact s_nil (fun fr h s => And.intro rfl (Exists.intro () (s.pick [] ⟨rfl, rfl, rfl, rfl, trivial⟩ rfl (by decide))))
    · have ho := cnd0 ho hb6
      refine s_move (.g rfl rfl (gf0 hb6)) rfl rfl (.t rfl) ?_
      obtain ⟨y7, hy7, ho⟩ := bnd ho
      refine s_calll (g_depot_permutation_ok hy7) (.v flat_bool .n) rfl (.g rfl rfl (gf0 hb6)) rfl rfl rfl .f (.c (.o (.t rfl)) .n) ?_
      show SOps _ _ _ _ _ _ _ _
      refine s_not (.g rfl rfl (gf0 hb6)) rfl rfl (.t rfl) ?_
      refine s_pk0 hb6 (.n rfl) rfl rfl (.t rfl) (.t rfl) ?_
      refine s_move (.n rfl) rfl rfl (.t rfl) ?_
      rcases Bool.eq_false_or_eq_true ((!y7)) with hb8 | hb8
      · have ho := cnd1 ho hb8
        refine s_skip (.g rfl rfl (gf1 hb8)) rfl ?_
        refine s_skip (.g rfl rfl (gf1 hb8)) rfl ?_
        refine s_pk1 hb8 (.n rfl) rfl rfl (.t rfl) .b ?_
        refine s_move (.n rfl) rfl rfl (.t rfl) ?_
        refine s_skip (.g rfl rfl rfl) rfl ?_
        refine s_skip (.g rfl rfl rfl) rfl ?_
        refine s_skip (.g rfl rfl rfl) rfl ?_
        refine s_skip (.g rfl rfl rfl) rfl ?_
        refine s_pick1 (.n rfl) rfl rfl (.t rfl) .b ?_
        cases ho
        exact s_nil (fun fr h s => And.intro rfl (Exists.intro () (s.pick [] ⟨rfl, rfl, rfl, rfl, trivial⟩ rfl (by decide))))
      · have ho := cnd0 ho hb8
        refine s_move (.g rfl rfl (gf0 hb8)) rfl rfl (.t rfl) ?_
        refine s_cmp (.g rfl rfl (gf0 hb8)) rfl rfl (.t rfl) (.i (by decide) (by decide)) .lss ?_
        refine s_pk0 hb8 (.n rfl) rfl rfl (.t rfl) (.t rfl) ?_
        refine s_move (.n rfl) rfl rfl (.t rfl) ?_
        rcases Bool.eq_false_or_eq_true ((decide (p_2 < 0))) with hb9 | hb9
        · have ho := cnd1 ho hb9
          refine s_skip (.g rfl rfl (gf1 hb9)) rfl ?_
          refine s_skip (.g rfl rfl (gf1 hb9)) rfl ?_
          refine s_skip (.g rfl rfl (gf1 hb9)) rfl ?_
          refine s_skip (.g rfl rfl (gf1 hb9)) rfl ?_
          refine s_pk1 hb9 (.n rfl) rfl rfl (.t rfl) .b ?_
          cases ho
          exact s_nil (fun fr h s => And.intro rfl (Exists.intro () (s.pick [] ⟨rfl, rfl, rfl, rfl, trivial⟩ rfl (by decide))))
        · have ho := cnd0 ho hb9
          refine s_move (.g rfl rfl (gf0 hb9)) rfl rfl (.t rfl) ?_
          refine s_len S22 (.g rfl rfl (gf0 hb9)) rfl rfl rfl rfl rfl (.t rfl) ?_
          refine s_move (.g rfl rfl (gf0 hb9)) rfl rfl (.t rfl) ?_
          refine s_cmp (.g rfl rfl (gf0 hb9)) rfl rfl (.t rfl) (.t rfl) .lss ?_
          refine s_pk0 hb9 (.n rfl) rfl rfl (.t rfl) (.t rfl) ?_
          cases ho
          exact s_nil (fun fr h s => And.intro rfl (Exists.intro () (s.pick [] ⟨rfl, rfl, rfl, rfl, trivial⟩ rfl (by decide))))
  · intro _
    show SRun _ _ _ _ _ _
    refine r_cond (.t rfl) (fun hq10 => ?_) (fun hq10 => ?_)
    · have ho := cnd1 ho hq10
      refine r_seq ?_
      refine r_region ?_
      refine s_assign (.n rfl) rfl rfl .b ?_
      refine s_nilq rfl ?_
      cases ho
      exact r_ret (ret_of (.inr rfl) (.v rfl .n) (by decide))
    · have ho := cnd0 ho hq10
      refine r_skipq rfl ?_
      refine r_seq ?_
      refine r_region ?_
      refine s_move (.n rfl) rfl rfl (.t rfl) ?_
      refine s_move (.n rfl) rfl rfl (.t rfl) ?_
      obtain ⟨y11, hy11, ho⟩ := bnd ho
      refine s_call (pre := []) (post := []) (vs := []) (g_depot_leaving_way_ok hy11) rfl (.n rfl) rfl rfl rfl .f (.c (.t rfl) (.c (.t rfl) .n)) ?_
      show SOps _ _ _ _ _ _ _ _
      refine s_alloc (zv := .nilfunc) (es := [.raw (.nilfunc)]) (by kernel_rfl) (fun _ => (okraw okn)) rfl (.n rfl) rfl rfl ?_
      intro b12
      refine s_storeb 0 (U78).sz rfl (by exact Nat.le_of_ble_eq_true rfl) (.n rfl) rfl rfl (.t rfl) (.t rfl) rfl rfl ?_
      refine s_st (st_freezeb (R := (rFn ktab (Int × Int) (Bool) (fun x => [.val (rInt .i64) (x.1), .val (rInt .i64) (x.2)]) (fun y => [.val rBool (y)]))) (a := y11) 0 [9] (cells_one rfl) rfl rfl ⟨rfl, trivial⟩) ?_
      refine s_nilq rfl ?_
      refine r_seq ?_
      refine r_seq ?_
      refine r_region ?_
      refine s_move (.n rfl) rfl rfl (.t rfl) ?_
      refine s_len S22 (.n rfl) rfl rfl rfl rfl rfl (.t rfl) ?_
      refine s_move (.n rfl) rfl rfl (.i (by decide) (by decide)) ?_
      refine s_nilq rfl ?_
      refine r_block ?_
      obtain ⟨t68, ht68, ho⟩ := bnd ho
      refine r_loop (σ := (Int)) (τ := Unit ⊕ (Bool)) (G := List AVal) (fun s g => ([(0, .val (rSlice (rInt .i64)) (p_0)), (3, .val (rSlice (rInt .i64)) (p_3)), (9, .val (rPtr (rFn ktab (Int × Int) (Bool) (fun x => [.val (rInt .i64) (x.1), .val (rInt .i64) (x.2)]) (fun y => [.val rBool (y)]))) (y11)), (33, .val (rSlice (rInt .i64)) (p_3)), (34, .val (rInt .i64) ((lenI p_3))), (35, .val (rInt .i64) (s))], [])) (altX (fun b => (.exit 0, fun g => ([], []))) (fun b => (.ret, fun g => ([(8, .val rBool (b))], [])))) _ [] ht68 (fun fr h s => s.pick [] ⟨rfl, rfl, rfl, rfl, rfl, rfl, trivial⟩ rfl (by decide)) ?_ ?_ ?_
      · intro t
        rcases t with t | t
        · exact (show (.exit 0 : AExit) ≠ .normal from fun e => by cases e)
        · exact (show (.ret : AExit) ≠ .normal from fun e => by cases e)
      · clear ho
        intro s40 g41 r69 ho
        refine r_seq ?_
        refine r_region ?_
        refine s_cmp (.n rfl) rfl rfl (.t rfl) (.t rfl) .lss ?_
        refine s_nilq rfl ?_
        refine r_seq ?_
        refine r_cond (.t rfl) (fun hq42 => ?_) (fun hq42 => ?_)
        · have ho := cnd1 ho hq42
          refine r_skipq rfl ?_
          refine r_seq ?_
          refine r_block ?_
          refine r_seq ?_
          refine r_region ?_
          refine s_move (.n rfl) rfl rfl (.t rfl) ?_
          obtain ⟨x43, hx43, ho⟩ := bnd ho
          refine s_idx S22 hx43 (.n rfl) rfl rfl (.t rfl) (.t rfl) ?_
          refine s_load U3 (.n rfl) rfl rfl (.t rfl) ?_
          refine s_alloc (zv := .int .i64 0) (es := [.val (rInt .i64) (0)]) (by kernel_rfl) (fun _ => (okint okn)) rfl (.n rfl) rfl rfl ?_
          intro b44
          refine s_assign (.n rfl) rfl rfl (.t rfl) ?_
          refine s_storeb 0 (U3).sz rfl (by exact Nat.le_of_ble_eq_true rfl) (.n rfl) rfl rfl (.t rfl) (.t rfl) rfl rfl ?_
          refine s_st (st_freezeb (R := (rInt .i64)) (a := x43) 0 [11] (cells_one rfl) rfl rfl ⟨rfl, trivial⟩) ?_
          refine s_nilq rfl ?_
          refine r_seq ?_
          refine r_draw [] (by kernel_rfl) ?_
          refine s_load U3 (.n rfl) rfl rfl (.t rfl) ?_
          refine s_move (.n rfl) rfl rfl (.t rfl) ?_
          refine s_len S22 (.n rfl) rfl rfl rfl rfl rfl (.t rfl) ?_
          refine s_ar (.n rfl) rfl rfl (.t rfl) (.i (by decide) (by decide)) .sub ?_
          obtain ⟨y55, hy55, ho⟩ := bnd ho
          refine s_calll (g_depot_within_ok hy55) (.v flat_bool .n) rfl (.n rfl) rfl rfl rfl .f (.c (.o (.t rfl)) (.c (.o (.i (by decide) (by decide))) (.c (.o (.t rfl)) .n))) ?_
          show SOps _ _ _ _ _ _ _ _
          refine s_not (.n rfl) rfl rfl (.t rfl) ?_
          refine s_move (.n rfl) rfl rfl (.t rfl) ?_
          rcases Bool.eq_false_or_eq_true ((!y55)) with hb56 | hb56
          · have ho := cnd1 ho hb56
            refine s_skip (.g rfl rfl (gf1 hb56)) rfl ?_
            refine s_skip (.g rfl rfl (gf1 hb56)) rfl ?_
            refine s_skip (.g rfl rfl (gf1 hb56)) rfl ?_
            refine s_skip (.u rfl rfl rfl) rfl ?_
            refine s_skip (.u rfl rfl rfl) rfl ?_
            refine s_skip (.u rfl rfl rfl) rfl ?_
            refine s_skip (.u rfl rfl rfl) rfl ?_
            refine s_skip (.u rfl rfl rfl) rfl ?_
            refine s_skip (.u rfl rfl rfl) rfl ?_
            refine s_skip (.u rfl rfl rfl) rfl ?_
            refine s_skip (.g rfl rfl (gf1 hb56)) rfl ?_
            refine s_pk1 hb56 (.n rfl) rfl rfl (.t rfl) .b ?_
            refine s_move (.n rfl) rfl rfl (.t rfl) ?_
            refine s_skip (.g rfl rfl rfl) rfl ?_
            refine s_skip (.g rfl rfl rfl) rfl ?_
            refine s_skip (.g rfl rfl rfl) rfl ?_
            refine s_skip (.g rfl rfl rfl) rfl ?_
            refine s_skip (.g rfl rfl rfl) rfl ?_
            refine s_pick1 (.n rfl) rfl rfl (.t rfl) .b ?_
            refine s_nilq rfl ?_
            refine r_cond (.t rfl) (fun _ => ?_) (fun hq => by cases hq)
            refine r_seq ?_
            refine r_region ?_
            refine s_assign (.n rfl) rfl rfl .b ?_
            refine s_nilq rfl ?_
            cases ho
            exact r_ret (fun fr h s => And.intro rfl (Exists.intro [] (s.pick [] ⟨rfl, trivial⟩ rfl (by decide))))
          · have ho := cnd0 ho hb56
            refine s_move (.g rfl rfl (gf0 hb56)) rfl rfl (.t rfl) ?_
            refine s_cmp (.g rfl rfl (gf0 hb56)) rfl rfl (.t rfl) (.i (by decide) (by decide)) .gtr ?_
            refine s_move (.g rfl rfl (gf0 hb56)) rfl rfl (.t rfl) ?_
            rcases Bool.eq_false_or_eq_true ((decide (s40 > 0))) with hb58 | hb58
            · have ho := cnd1 ho hb58
              refine s_load U3 (.g rfl rfl (gt1 hb58)) rfl rfl (.t rfl) ?_
              refine s_move (.g rfl rfl (gt1 hb58)) rfl rfl (.t rfl) ?_
              refine s_move (.g rfl rfl (gt1 hb58)) rfl rfl (.t rfl) ?_
              refine s_ar (.g rfl rfl (gt1 hb58)) rfl rfl (.t rfl) (.i (by decide) (by decide)) .sub ?_
              obtain ⟨x59, hx59, ho⟩ := bnd ho
              refine s_idx S22 hx59 (.g rfl rfl (gt1 hb58)) rfl rfl (.t rfl) (.t rfl) ?_
              refine s_load U3 (.g rfl rfl (gt1 hb58)) rfl rfl (.t rfl) ?_
              refine s_cmp (.g rfl rfl (gt1 hb58)) rfl rfl (.t rfl) (.t rfl) .leq ?_
              refine s_pk1 hb58 (.g rfl rfl (gf0 hb56)) rfl rfl (.t rfl) (.t rfl) ?_
              refine s_pk0 hb56 (.n rfl) rfl rfl (.t rfl) (.t rfl) ?_
              refine s_move (.n rfl) rfl rfl (.t rfl) ?_
              rcases Bool.eq_false_or_eq_true ((decide (x43 ≤ x59))) with hb60 | hb60
              · have ho := cnd1 ho hb60
                refine s_skip (.g rfl rfl (gf1 hb60)) rfl ?_
                refine s_skip (.g rfl rfl (gf1 hb60)) rfl ?_
                refine s_skip (.g rfl rfl (gf1 hb60)) rfl ?_
                refine s_skip (.g rfl rfl (gf1 hb60)) rfl ?_
                refine s_skip (.g rfl rfl (gf1 hb60)) rfl ?_
                refine s_pk1 hb60 (.n rfl) rfl rfl (.t rfl) .b ?_
                refine s_nilq rfl ?_
                refine r_cond (.t rfl) (fun _ => ?_) (fun hq => by cases hq)
                refine r_seq ?_
                refine r_region ?_
                refine s_assign (.n rfl) rfl rfl .b ?_
                refine s_nilq rfl ?_
                cases ho
                exact r_ret (fun fr h s => And.intro rfl (Exists.intro [] (s.pick [] ⟨rfl, trivial⟩ rfl (by decide))))
              · have ho := cnd0 ho hb60
                refine s_move (.g rfl rfl (gf0 hb60)) rfl rfl (.t rfl) ?_
                refine s_move (.g rfl rfl (gf0 hb60)) rfl rfl (.t rfl) ?_
                obtain ⟨x62, hx62, ho⟩ := bnd ho
                refine s_slO S22 hx62 (.g rfl rfl (gf0 hb60)) rfl rfl (.t rfl) .n (.s (.t rfl)) ?_
                refine s_mkfn (X := (Int)) (Y := (Bool)) (fun x => [.val (rInt .i64) (x)]) (fun y => [.val rBool (y)]) (f := (fun x => g_depot_Proves_1 x y11 x43)) (fun x y hf => g_depot_Proves_1_ok hf) rfl (.g rfl rfl (gf0 hb60)) rfl rfl .n (.c (.t rfl) (.c (.t rfl) .n)) ?_
                obtain ⟨y63, hy63, ho⟩ := bnd ho
                refine s_calll (g_slices_ContainsFunc_int_int_ok hy63) (.v flat_bool .n) rfl (.g rfl rfl (gf0 hb60)) rfl rfl rfl .f (.c (.o (.t rfl)) (.c (.o (.t rfl)) .n)) ?_
                show SOps _ _ _ _ _ _ _ _
                refine s_pk0 hb60 (.n rfl) rfl rfl (.t rfl) (.t rfl) ?_
                refine s_nilq rfl ?_
                refine r_cond (.t rfl) (fun hq64 => ?_) (fun hq64 => ?_)
                · have ho := cnd1 ho hq64
                  refine r_seq ?_
                  refine r_region ?_
                  refine s_assign (.n rfl) rfl rfl .b ?_
                  refine s_nilq rfl ?_
                  cases ho
                  exact r_ret (fun fr h s => And.intro rfl (Exists.intro [] (s.pick [] ⟨rfl, trivial⟩ rfl (by decide))))
                · have ho := cnd0 ho hq64
                  refine r_skipq rfl ?_
                  refine r_region ?_
                  refine s_ar (.n rfl) rfl rfl (.t rfl) (.i (by decide) (by decide)) .add ?_
                  refine s_move (.n rfl) rfl rfl (.t rfl) ?_
                  cases ho
                  exact s_nil (fun fr h s => And.intro rfl (Exists.intro [] (s.pick [] ⟨rfl, rfl, rfl, rfl, rfl, rfl, trivial⟩ rfl (by decide))))
            · have ho := cnd0 ho hb58
              refine s_skip (.g rfl rfl (gt0 hb58)) rfl ?_
              refine s_skip (.g rfl rfl (gt0 hb58)) rfl ?_
              refine s_skip (.g rfl rfl (gt0 hb58)) rfl ?_
              refine s_skip (.g rfl rfl (gt0 hb58)) rfl ?_
              refine s_skip (.g rfl rfl (gt0 hb58)) rfl ?_
              refine s_skip (.g rfl rfl (gt0 hb58)) rfl ?_
              refine s_skip (.g rfl rfl (gt0 hb58)) rfl ?_
              refine s_pk0 hb58 (.g rfl rfl (gf0 hb56)) rfl rfl (.t rfl) .b ?_
              refine s_pk0 hb56 (.n rfl) rfl rfl (.t rfl) (.t rfl) ?_
              refine s_move (.n rfl) rfl rfl (.t rfl) ?_
              refine s_move (.g rfl rfl rfl) rfl rfl (.t rfl) ?_
              refine s_move (.g rfl rfl rfl) rfl rfl (.t rfl) ?_
              obtain ⟨x65, hx65, ho⟩ := bnd ho
              refine s_slO S22 hx65 (.g rfl rfl rfl) rfl rfl (.t rfl) .n (.s (.t rfl)) ?_
              refine s_mkfn (X := (Int)) (Y := (Bool)) (fun x => [.val (rInt .i64) (x)]) (fun y => [.val rBool (y)]) (f := (fun x => g_depot_Proves_1 x y11 x43)) (fun x y hf => g_depot_Proves_1_ok hf) rfl (.g rfl rfl rfl) rfl rfl .n (.c (.t rfl) (.c (.t rfl) .n)) ?_
              obtain ⟨y66, hy66, ho⟩ := bnd ho
              refine s_calll (g_slices_ContainsFunc_int_int_ok hy66) (.v flat_bool .n) rfl (.g rfl rfl rfl) rfl rfl rfl .f (.c (.o (.t rfl)) (.c (.o (.t rfl)) .n)) ?_
              show SOps _ _ _ _ _ _ _ _
              refine s_pick0 (.n rfl) rfl rfl (.t rfl) (.t rfl) ?_
              refine s_nilq rfl ?_
              refine r_cond (.t rfl) (fun hq67 => ?_) (fun hq67 => ?_)
              · have ho := cnd1 ho hq67
                refine r_seq ?_
                refine r_region ?_
                refine s_assign (.n rfl) rfl rfl .b ?_
                refine s_nilq rfl ?_
                cases ho
                exact r_ret (fun fr h s => And.intro rfl (Exists.intro [] (s.pick [] ⟨rfl, trivial⟩ rfl (by decide))))
              · have ho := cnd0 ho hq67
                refine r_skipq rfl ?_
                refine r_region ?_
                refine s_ar (.n rfl) rfl rfl (.t rfl) (.i (by decide) (by decide)) .add ?_
                refine s_move (.n rfl) rfl rfl (.t rfl) ?_
                cases ho
                exact s_nil (fun fr h s => And.intro rfl (Exists.intro [] (s.pick [] ⟨rfl, rfl, rfl, rfl, rfl, rfl, trivial⟩ rfl (by decide))))
        · have ho := cnd0 ho hq42
          cases ho
          exact r_exit (fun fr h s => And.intro rfl (Exists.intro [] (s.pick [] trivial rfl (by decide))))
      · clear ht68
        rcases t68 with b70 | b71
        · have ho := alt_l ho
          intro g72
          show ∀ fr h, St _ [] [] fr h → _
          show SRun _ _ _ _ _ _
          refine r_seq ?_
          refine r_region ?_
          refine s_assign (.n rfl) rfl rfl .b ?_
          refine s_nilq rfl ?_
          cases ho
          exact r_ret (ret_of (.inr rfl) (.v rfl .n) (by decide))
        · have ho := alt_r ho
          intro g73
          show ∀ fr h, St _ [(8, .val rBool (b71))] [] fr h → _
          cases ho
          exact id (ret_of (.inr rfl) (.v rfl .n) (by decide))
theorem g_ref09_Proves_ok {p_0 : (List Int)} {p_1 : Bool} {p_2 : Int} {p_3 : (List Int)} {out : (Bool)} (ho : g_ref09_Proves p_0 p_1 p_2 p_3 = some out) : Fun ktab 29 [.val (rSlice (rInt .i64)) p_0, .val rBool p_1, .val (rInt .i64) p_2, .val (rSlice (rInt .i64)) p_3] [.val rBool (out)] := by
  refine fun_of (F := Try.f29) (by rfl) (by rfl) (by rfl) (fun C hC => ?_)
  delta g_ref09_Proves at ho
  refine r_seq ?_
  refine r_region ?_
  refine s_assign (.n rfl) rfl rfl .b ?_
  refine s_nilq rfl ?_
  refine r_seq ?_
  refine r_seq ?_
  obtain ⟨c4, hc4, ho⟩ := bnd ho
  refine r_cut (τ := (Bool)) (G := Unit) (fun t => (.normal, fun _ => ([(0, .val (rSlice (rInt .i64)) (p_0)), (1, .val rBool (p_1)), (3, .val (rSlice (rInt .i64)) (p_3)), (23, .val rBool (t))], []))) (t := c4) ?_ ?_
  · have ho := hc4
    clear hc4
    refine r_region ?_
    refine s_move (.n rfl) rfl rfl (.t rfl) ?_
    obtain ⟨y5, hy5, ho⟩ := bnd ho
    refine s_calll (g_ref09_Order_ok hy5) (.v flat_bool .n) rfl (.n rfl) rfl rfl rfl .f (.c (.o (.t rfl)) .n) ?_
    show SOps _ _ _ _ _ _ _ _
    refine s_not (.n rfl) rfl rfl (.t rfl) ?_
    refine s_move (.n rfl) rfl rfl (.t rfl) ?_
    rcases Bool.eq_false_or_eq_true ((!y5)) with hb6 | hb6
    · have ho := cnd1 ho hb6
      refine s_skip (.g rfl rfl (gf1 hb6)) rfl ?_
      refine s_skip (.g rfl rfl (gf1 hb6)) rfl ?_
      refine s_pk1 hb6 (.n rfl) rfl rfl (.t rfl) .b ?_
      refine s_move (.n rfl) rfl rfl (.t rfl) ?_
      refine s_skip (.g rfl rfl rfl) rfl ?_
      refine s_skip (.g rfl rfl rfl) rfl ?_
      refine s_skip (.g rfl rfl rfl) rfl ?_
      refine s_skip (.g rfl rfl rfl) rfl ?_
      refine s_pick1 (.n rfl) rfl rfl (.t rfl) .b ?_
      cases ho
      exact s_nil (fun fr h s => And.intro rfl (Exists.intro () (s.pick [] ⟨rfl, rfl, rfl, rfl, trivial⟩ rfl (by decide))))
    · have ho := cnd0 ho hb6
      refine s_move (.g rfl rfl (gf0 hb6)) rfl rfl (.t rfl) ?_
      refine s_cmp (.g rfl rfl (gf0 hb6)) rfl rfl (.t rfl) (.i (by decide) (by decide)) .lss ?_
      refine s_pk0 hb6 (.n rfl) rfl rfl (.t rfl) (.t rfl) ?_
      refine s_move (.n rfl) rfl rfl (.t rfl) ?_
      rcases Bool.eq_false_or_eq_true ((decide (p_2 < 0))) with hb7 | hb7
      · have ho := cnd1 ho hb7
        refine s_skip (.g rfl rfl (gf1 hb7)) rfl ?_
        refine s_skip (.g rfl rfl (gf1 hb7)) rfl ?_
        refine s_skip (.g rfl rfl (gf1 hb7)) rfl ?_
        refine s_skip (.g rfl rfl (gf1 hb7)) rfl ?_
        refine s_pk1 hb7 (.n rfl) rfl rfl (.t rfl) .b ?_
        cases ho
        exact s_nil (fun fr h s => And.intro rfl (Exists.intro () (s.pick [] ⟨rfl, rfl, rfl, rfl, trivial⟩ rfl (by decide))))
      · have ho := cnd0 ho hb7
        refine s_move (.g rfl rfl (gf0 hb7)) rfl rfl (.t rfl) ?_
        refine s_len S22 (.g rfl rfl (gf0 hb7)) rfl rfl rfl rfl rfl (.t rfl) ?_
        refine s_move (.g rfl rfl (gf0 hb7)) rfl rfl (.t rfl) ?_
        refine s_cmp (.g rfl rfl (gf0 hb7)) rfl rfl (.t rfl) (.t rfl) .lss ?_
        refine s_pk0 hb7 (.n rfl) rfl rfl (.t rfl) (.t rfl) ?_
        cases ho
        exact s_nil (fun fr h s => And.intro rfl (Exists.intro () (s.pick [] ⟨rfl, rfl, rfl, rfl, trivial⟩ rfl (by decide))))
  · intro _
    show SRun _ _ _ _ _ _
    refine r_cond (.t rfl) (fun hq8 => ?_) (fun hq8 => ?_)
    · have ho := cnd1 ho hq8
      refine r_seq ?_
      refine r_region ?_
      refine s_assign (.n rfl) rfl rfl .b ?_
      refine s_nilq rfl ?_
      cases ho
      exact r_ret (ret_of (.inr rfl) (.v rfl .n) (by decide))
    · have ho := cnd0 ho hq8
      refine r_skipq rfl ?_
      refine r_seq ?_
      refine r_seq ?_
      refine r_region ?_
      refine s_assign (.n rfl) rfl rfl (.i (by decide) (by decide)) ?_
      refine s_nilq rfl ?_
      refine r_block ?_
      obtain ⟨t115, ht115, ho⟩ := bnd ho
      refine r_loop (σ := (Int)) (τ := Unit ⊕ (Bool)) (G := List AVal) (fun s g => ([(0, .val (rSlice (rInt .i64)) (p_0)), (1, .val rBool (p_1)), (3, .val (rSlice (rInt .i64)) (p_3)), (9, .val (rInt .i64) (s))], [])) (altX (fun b => (.exit 0, fun g => ([], []))) (fun b => (.ret, fun g => ([(8, .val rBool (b))], [])))) _ [] ht115 (fun fr h s => s.pick [] ⟨rfl, rfl, rfl, rfl, trivial⟩ rfl (by decide)) ?_ ?_ ?_
      · intro t
        rcases t with t | t
        · exact (show (.exit 0 : AExit) ≠ .normal from fun e => by cases e)
        · exact (show (.ret : AExit) ≠ .normal from fun e => by cases e)
      · clear ho
        intro s61 g62 r116 ho
        refine r_seq ?_
        refine r_seq ?_
        refine r_region ?_
        refine s_move (.n rfl) rfl rfl (.t rfl) ?_
        refine s_move (.n rfl) rfl rfl (.t rfl) ?_
        refine s_len S22 (.n rfl) rfl rfl rfl rfl rfl (.t rfl) ?_
        refine s_cmp (.n rfl) rfl rfl (.t rfl) (.t rfl) .lss ?_
        refine s_nilq rfl ?_
        refine r_cond (.t rfl) (fun hq63 => ?_) (fun hq63 => ?_)
        · have ho := cnd1 ho hq63
          refine r_skipq rfl ?_
          refine r_seq ?_
          refine r_block ?_
          refine r_seq ?_
          refine r_seq ?_
          refine r_draw [] (by kernel_rfl) ?_
          refine s_move (.n rfl) rfl rfl (.t rfl) ?_
          refine s_move (.n rfl) rfl rfl (.t rfl) ?_
          obtain ⟨x70, hx70, ho⟩ := bnd ho
          refine s_idx S22 hx70 (.n rfl) rfl rfl (.t rfl) (.t rfl) ?_
          refine s_load U3 (.n rfl) rfl rfl (.t rfl) ?_
          refine s_move (.n rfl) rfl rfl (.t rfl) ?_
          refine s_len S22 (.n rfl) rfl rfl rfl rfl rfl (.t rfl) ?_
          refine s_ar (.n rfl) rfl rfl (.t rfl) (.i (by decide) (by decide)) .sub ?_
          obtain ⟨y71, hy71, ho⟩ := bnd ho
          refine s_calll (g_ref09_in_ok hy71) (.v flat_bool .n) rfl (.n rfl) rfl rfl rfl .f (.c (.o (.t rfl)) (.c (.o (.i (by decide) (by decide))) (.c (.o (.t rfl)) .n))) ?_
          show SOps _ _ _ _ _ _ _ _
          refine s_not (.n rfl) rfl rfl (.t rfl) ?_
          refine s_move (.n rfl) rfl rfl (.t rfl) ?_
          rcases Bool.eq_false_or_eq_true ((!y71)) with hb72 | hb72
          · have ho := cnd1 ho hb72
            refine s_skip (.g rfl rfl (gf1 hb72)) rfl ?_
            refine s_skip (.g rfl rfl (gf1 hb72)) rfl ?_
            refine s_skip (.g rfl rfl (gf1 hb72)) rfl ?_
            refine s_skip (.u rfl rfl rfl) rfl ?_
            refine s_skip (.u rfl rfl rfl) rfl ?_
            refine s_skip (.u rfl rfl rfl) rfl ?_
            refine s_skip (.u rfl rfl rfl) rfl ?_
            refine s_skip (.u rfl rfl rfl) rfl ?_
            refine s_skip (.u rfl rfl rfl) rfl ?_
            refine s_skip (.u rfl rfl rfl) rfl ?_
            refine s_skip (.u rfl rfl rfl) rfl ?_
            refine s_skip (.u rfl rfl rfl) rfl ?_
            refine s_skip (.u rfl rfl rfl) rfl ?_
            refine s_skip (.g rfl rfl (gf1 hb72)) rfl ?_
            refine s_pk1 hb72 (.n rfl) rfl rfl (.t rfl) .b ?_
            refine s_nilq rfl ?_
            refine r_cond (.t rfl) (fun _ => ?_) (fun hq => by cases hq)
            refine r_seq ?_
            refine r_region ?_
            refine s_assign (.n rfl) rfl rfl .b ?_
            refine s_nilq rfl ?_
            cases ho
            exact r_ret (fun fr h s => And.intro rfl (Exists.intro [] (s.pick [] ⟨rfl, trivial⟩ rfl (by decide))))
          · have ho := cnd0 ho hb72
            refine s_move (.g rfl rfl (gf0 hb72)) rfl rfl (.t rfl) ?_
            refine s_cmp (.g rfl rfl (gf0 hb72)) rfl rfl (.t rfl) (.i (by decide) (by decide)) .gtr ?_
            refine s_move (.g rfl rfl (gf0 hb72)) rfl rfl (.t rfl) ?_
            rcases Bool.eq_false_or_eq_true ((decide (s61 > 0))) with hb74 | hb74
            · have ho := cnd1 ho hb74
              refine s_move (.g rfl rfl (gt1 hb74)) rfl rfl (.t rfl) ?_
              refine s_move (.g rfl rfl (gt1 hb74)) rfl rfl (.t rfl) ?_
              obtain ⟨x75, hx75, ho⟩ := bnd ho
              refine s_idx S22 hx75 (.g rfl rfl (gt1 hb74)) rfl rfl (.t rfl) (.t rfl) ?_
              refine s_load U3 (.g rfl rfl (gt1 hb74)) rfl rfl (.t rfl) ?_
              refine s_move (.g rfl rfl (gt1 hb74)) rfl rfl (.t rfl) ?_
              refine s_move (.g rfl rfl (gt1 hb74)) rfl rfl (.t rfl) ?_
              refine s_ar (.g rfl rfl (gt1 hb74)) rfl rfl (.t rfl) (.i (by decide) (by decide)) .sub ?_
              obtain ⟨x76, hx76, ho⟩ := bnd ho
              refine s_idx S22 hx76 (.g rfl rfl (gt1 hb74)) rfl rfl (.t rfl) (.t rfl) ?_
              refine s_load U3 (.g rfl rfl (gt1 hb74)) rfl rfl (.t rfl) ?_
              refine s_cmp (.g rfl rfl (gt1 hb74)) rfl rfl (.t rfl) (.t rfl) .leq ?_
              refine s_pk1 hb74 (.g rfl rfl (gf0 hb72)) rfl rfl (.t rfl) (.t rfl) ?_
              refine s_pk0 hb72 (.n rfl) rfl rfl (.t rfl) (.t rfl) ?_
              refine s_nilq rfl ?_
              refine r_cond (.t rfl) (fun hq77 => ?_) (fun hq77 => ?_)
              · have ho := cnd1 ho hq77
                refine r_seq ?_
                refine r_region ?_
                refine s_assign (.n rfl) rfl rfl .b ?_
                refine s_nilq rfl ?_
                cases ho
                exact r_ret (fun fr h s => And.intro rfl (Exists.intro [] (s.pick [] ⟨rfl, trivial⟩ rfl (by decide))))
              · have ho := cnd0 ho hq77
                refine r_skipq rfl ?_
                refine r_seq ?_
                refine r_region ?_
                refine s_assign (.n rfl) rfl rfl (.i (by decide) (by decide)) ?_
                refine s_nilq rfl ?_
                refine r_block ?_
                obtain ⟨t90, ht90, ho⟩ := bnd ho
                refine r_loop (σ := (Int)) (τ := Unit ⊕ (Bool)) (G := List AVal) (fun s g => ([(0, .val (rSlice (rInt .i64)) (p_0)), (1, .val rBool (p_1)), (3, .val (rSlice (rInt .i64)) (p_3)), (9, .val (rInt .i64) (s61)), (10, .val (rInt .i64) (s)), (40, .val (rInt .i64) (s61)), (41, .val rBool ((decide (s61 > 0)))), (42, .val rBool ((decide (s61 > 0)))), (43, .val (rSlice (rInt .i64)) (p_3)), (44, .val (rInt .i64) (s61)), (45, .val (rPtr (rInt .i64)) (x75)), (46, .val (rInt .i64) (x75)), (47, .val (rSlice (rInt .i64)) (p_3)), (48, .val (rInt .i64) (s61)), (49, .val (rInt .i64) ((w64 (s61 - 1)))), (50, .val (rPtr (rInt .i64)) (x76)), (51, .val (rInt .i64) (x76)), (52, .val rBool ((decide (x75 ≤ x76)))), (53, .val rBool ((decide (x75 ≤ x76))))], [])) (altX (fun b => (.exit 2, fun g => ([(0, .val (rSlice (rInt .i64)) (p_0)), (1, .val rBool (p_1)), (3, .val (rSlice (rInt .i64)) (p_3)), (9, .val (rInt .i64) (s61)), (40, .val (rInt .i64) (s61)), (41, .val rBool ((decide (s61 > 0)))), (42, .val rBool ((decide (s61 > 0)))), (43, .val (rSlice (rInt .i64)) (p_3)), (44, .val (rInt .i64) (s61)), (45, .val (rPtr (rInt .i64)) (x75)), (46, .val (rInt .i64) (x75)), (47, .val (rSlice (rInt .i64)) (p_3)), (48, .val (rInt .i64) (s61)), (49, .val (rInt .i64) ((w64 (s61 - 1)))), (50, .val (rPtr (rInt .i64)) (x76)), (51, .val (rInt .i64) (x76)), (52, .val rBool ((decide (x75 ≤ x76)))), (53, .val rBool ((decide (x75 ≤ x76))))], []))) (fun b => (.ret, fun g => ([(8, .val rBool (b))], [])))) _ [] ht90 (fun fr h s => s.pick [] ⟨rfl, rfl, rfl, rfl, rfl, rfl, rfl, rfl, rfl, rfl, rfl, rfl, rfl, rfl, rfl, rfl, rfl, rfl, rfl, trivial⟩ rfl (by decide)) ?_ ?_ ?_
                · intro t
                  rcases t with t | t
                  · exact (show (.exit 2 : AExit) ≠ .normal from fun e => by cases e)
                  · exact (show (.ret : AExit) ≠ .normal from fun e => by cases e)
                · clear ho
                  intro s83 g84 r91 ho
                  refine r_seq ?_
                  refine r_seq ?_
                  refine r_region ?_
                  refine s_move (.n rfl) rfl rfl (.t rfl) ?_
                  refine s_move (.n rfl) rfl rfl (.t rfl) ?_
                  refine s_cmp (.n rfl) rfl rfl (.t rfl) (.t rfl) .lss ?_
                  refine s_nilq rfl ?_
                  refine r_cond (.t rfl) (fun hq85 => ?_) (fun hq85 => ?_)
                  · have ho := cnd1 ho hq85
                    refine r_skipq rfl ?_
                    refine r_seq ?_
                    refine r_block ?_
                    refine r_seq ?_
                    refine r_draw [] (by kernel_rfl) ?_
                    refine s_move (.n rfl) rfl rfl (.t rfl) ?_
                    refine s_move (.n rfl) rfl rfl (.t rfl) ?_
                    refine s_move (.n rfl) rfl rfl (.t rfl) ?_
                    refine s_move (.n rfl) rfl rfl (.t rfl) ?_
                    obtain ⟨x86, hx86, ho⟩ := bnd ho
                    refine s_idx S22 hx86 (.n rfl) rfl rfl (.t rfl) (.t rfl) ?_
                    refine s_load U3 (.n rfl) rfl rfl (.t rfl) ?_
                    refine s_move (.n rfl) rfl rfl (.t rfl) ?_
                    refine s_move (.n rfl) rfl rfl (.t rfl) ?_
                    obtain ⟨x87, hx87, ho⟩ := bnd ho
                    refine s_idx S22 hx87 (.n rfl) rfl rfl (.t rfl) (.t rfl) ?_
                    refine s_load U3 (.n rfl) rfl rfl (.t rfl) ?_
                    obtain ⟨y88, hy88, ho⟩ := bnd ho
                    refine s_calll (g_ref09_InWay_ok hy88) (.v flat_bool .n) rfl (.n rfl) rfl rfl rfl .f (.c (.o (.t rfl)) (.c (.o (.t rfl)) (.c (.o (.t rfl)) (.c (.o (.t rfl)) .n)))) ?_
                    show SOps _ _ _ _ _ _ _ _
                    refine s_not (.n rfl) rfl rfl (.t rfl) ?_
                    refine s_nilq rfl ?_
                    refine r_cond (.t rfl) (fun hq89 => ?_) (fun hq89 => ?_)
                    · have ho := cnd1 ho hq89
                      refine r_seq ?_
                      refine r_region ?_
                      refine s_assign (.n rfl) rfl rfl .b ?_
                      refine s_nilq rfl ?_
                      cases ho
                      exact r_ret (fun fr h s => And.intro rfl (Exists.intro [] (s.pick [] ⟨rfl, trivial⟩ rfl (by decide))))
                    · have ho := cnd0 ho hq89
                      refine r_skipq rfl ?_
                      refine r_region ?_
                      refine s_move (.n rfl) rfl rfl (.t rfl) ?_
                      refine s_ar (.n rfl) rfl rfl (.t rfl) (.i (by decide) (by decide)) .add ?_
                      refine s_assign (.n rfl) rfl rfl (.t rfl) ?_
                      cases ho
                      exact s_nil (fun fr h s => And.intro rfl (Exists.intro [] (s.pick [] ⟨rfl, rfl, rfl, rfl, rfl, rfl, rfl, rfl, rfl, rfl, rfl, rfl, rfl, rfl, rfl, rfl, rfl, rfl, rfl, trivial⟩ rfl (by decide))))
                  · have ho := cnd0 ho hq85
                    cases ho
                    exact r_exit (fun fr h s => And.intro rfl (Exists.intro [] (s.pick [] ⟨rfl, rfl, rfl, rfl, rfl, rfl, rfl, rfl, rfl, rfl, rfl, rfl, rfl, rfl, rfl, rfl, rfl, rfl, trivial⟩ rfl (by decide))))
                · clear ht90
                  rcases t90 with b92 | b93
                  · have ho := alt_l ho
                    intro g94
                    show ∀ fr h, St _ [(0, .val (rSlice (rInt .i64)) (p_0)), (1, .val rBool (p_1)), (3, .val (rSlice (rInt .i64)) (p_3)), (9, .val (rInt .i64) (s61)), (40, .val (rInt .i64) (s61)), (41, .val rBool ((decide (s61 > 0)))), (42, .val rBool ((decide (s61 > 0)))), (43, .val (rSlice (rInt .i64)) (p_3)), (44, .val (rInt .i64) (s61)), (45, .val (rPtr (rInt .i64)) (x75)), (46, .val (rInt .i64) (x75)), (47, .val (rSlice (rInt .i64)) (p_3)), (48, .val (rInt .i64) (s61)), (49, .val (rInt .i64) ((w64 (s61 - 1)))), (50, .val (rPtr (rInt .i64)) (x76)), (51, .val (rInt .i64) (x76)), (52, .val rBool ((decide (x75 ≤ x76)))), (53, .val rBool ((decide (x75 ≤ x76))))] [] fr h → _
                    show SRun _ _ _ _ _ _
                    refine r_region ?_
                    refine s_move (.n rfl) rfl rfl (.t rfl) ?_
                    refine s_ar (.n rfl) rfl rfl (.t rfl) (.i (by decide) (by decide)) .add ?_
                    refine s_assign (.n rfl) rfl rfl (.t rfl) ?_
                    cases ho
                    exact s_nil (fun fr h s => And.intro rfl (Exists.intro [] (s.pick [] ⟨rfl, rfl, rfl, rfl, trivial⟩ rfl (by decide))))
                  · have ho := alt_r ho
                    intro g95
                    show ∀ fr h, St _ [(8, .val rBool (b93))] [] fr h → _
                    cases ho
                    exact id (fun fr h s => And.intro rfl (Exists.intro [] (s.pick [] ⟨rfl, trivial⟩ rfl (by decide))))
            · have ho := cnd0 ho hb74
              refine s_skip (.g rfl rfl (gt0 hb74)) rfl ?_
              refine s_skip (.g rfl rfl (gt0 hb74)) rfl ?_
              refine s_skip (.g rfl rfl (gt0 hb74)) rfl ?_
              refine s_skip (.g rfl rfl (gt0 hb74)) rfl ?_
              refine s_skip (.g rfl rfl (gt0 hb74)) rfl ?_
              refine s_skip (.g rfl rfl (gt0 hb74)) rfl ?_
              refine s_skip (.g rfl rfl (gt0 hb74)) rfl ?_
              refine s_skip (.g rfl rfl (gt0 hb74)) rfl ?_
              refine s_skip (.g rfl rfl (gt0 hb74)) rfl ?_
              refine s_skip (.g rfl rfl (gt0 hb74)) rfl ?_
              refine s_pk0 hb74 (.g rfl rfl (gf0 hb72)) rfl rfl (.t rfl) .b ?_
              refine s_pk0 hb72 (.n rfl) rfl rfl (.t rfl) (.t rfl) ?_
              refine s_nilq rfl ?_
              refine r_cond (.t rfl) (fun hq => by cases hq) (fun _ => ?_)
              refine r_skipq rfl ?_
              refine r_seq ?_
              refine r_region ?_
              refine s_assign (.n rfl) rfl rfl (.i (by decide) (by decide)) ?_
              refine s_nilq rfl ?_
              refine r_block ?_
              obtain ⟨t109, ht109, ho⟩ := bnd ho
              refine r_loop (σ := (Int)) (τ := Unit ⊕ (Bool)) (G := List AVal) (fun s g => ([(0, .val (rSlice (rInt .i64)) (p_0)), (1, .val rBool (p_1)), (3, .val (rSlice (rInt .i64)) (p_3)), (9, .val (rInt .i64) (s61)), (10, .val (rInt .i64) (s)), (40, .val (rInt .i64) (s61)), (41, .val rBool ((decide (s61 > 0)))), (42, .val rBool ((decide (s61 > 0)))), (53, .val rBool (false))], [])) (altX (fun b => (.exit 2, fun g => ([(0, .val (rSlice (rInt .i64)) (p_0)), (1, .val rBool (p_1)), (3, .val (rSlice (rInt .i64)) (p_3)), (9, .val (rInt .i64) (s61)), (40, .val (rInt .i64) (s61)), (41, .val rBool ((decide (s61 > 0)))), (42, .val rBool ((decide (s61 > 0)))), (53, .val rBool (false))], []))) (fun b => (.ret, fun g => ([(8, .val rBool (b))], [])))) _ [] ht109 (fun fr h s => s.pick [] ⟨rfl, rfl, rfl, rfl, rfl, rfl, rfl, rfl, rfl, trivial⟩ rfl (by decide)) ?_ ?_ ?_
              · intro t
                rcases t with t | t
                · exact (show (.exit 2 : AExit) ≠ .normal from fun e => by cases e)
                · exact (show (.ret : AExit) ≠ .normal from fun e => by cases e)
              · clear ho
                intro s102 g103 r110 ho
                refine r_seq ?_
                refine r_seq ?_
                refine r_region ?_
                refine s_move (.n rfl) rfl rfl (.t rfl) ?_
                refine s_move (.n rfl) rfl rfl (.t rfl) ?_
                refine s_cmp (.n rfl) rfl rfl (.t rfl) (.t rfl) .lss ?_
                refine s_nilq rfl ?_
                refine r_cond (.t rfl) (fun hq104 => ?_) (fun hq104 => ?_)
                · have ho := cnd1 ho hq104
                  refine r_skipq rfl ?_
                  refine r_seq ?_
                  refine r_block ?_
                  refine r_seq ?_
                  refine r_draw [] (by kernel_rfl) ?_
                  refine s_move (.n rfl) rfl rfl (.t rfl) ?_
                  refine s_move (.n rfl) rfl rfl (.t rfl) ?_
                  refine s_move (.n rfl) rfl rfl (.t rfl) ?_
                  refine s_move (.n rfl) rfl rfl (.t rfl) ?_
                  obtain ⟨x105, hx105, ho⟩ := bnd ho
                  refine s_idx S22 hx105 (.n rfl) rfl rfl (.t rfl) (.t rfl) ?_
                  refine s_load U3 (.n rfl) rfl rfl (.t rfl) ?_
                  refine s_move (.n rfl) rfl rfl (.t rfl) ?_
                  refine s_move (.n rfl) rfl rfl (.t rfl) ?_
                  obtain ⟨x106, hx106, ho⟩ := bnd ho
                  refine s_idx S22 hx106 (.n rfl) rfl rfl (.t rfl) (.t rfl) ?_
                  refine s_load U3 (.n rfl) rfl rfl (.t rfl) ?_
                  obtain ⟨y107, hy107, ho⟩ := bnd ho
                  refine s_calll (g_ref09_InWay_ok hy107) (.v flat_bool .n) rfl (.n rfl) rfl rfl rfl .f (.c (.o (.t rfl)) (.c (.o (.t rfl)) (.c (.o (.t rfl)) (.c (.o (.t rfl)) .n)))) ?_
                  show SOps _ _ _ _ _ _ _ _
                  refine s_not (.n rfl) rfl rfl (.t rfl) ?_
                  refine s_nilq rfl ?_
                  refine r_cond (.t rfl) (fun hq108 => ?_) (fun hq108 => ?_)
                  · have ho := cnd1 ho hq108
                    refine r_seq ?_
                    refine r_region ?_
                    refine s_assign (.n rfl) rfl rfl .b ?_
                    refine s_nilq rfl ?_
                    cases ho
                    exact r_ret (fun fr h s => And.intro rfl (Exists.intro [] (s.pick [] ⟨rfl, trivial⟩ rfl (by decide))))
                  · have ho := cnd0 ho hq108
                    refine r_skipq rfl ?_
                    refine r_region ?_
                    refine s_move (.n rfl) rfl rfl (.t rfl) ?_
                    refine s_ar (.n rfl) rfl rfl (.t rfl) (.i (by decide) (by decide)) .add ?_
                    refine s_assign (.n rfl) rfl rfl (.t rfl) ?_
                    cases ho
                    exact s_nil (fun fr h s => And.intro rfl (Exists.intro [] (s.pick [] ⟨rfl, rfl, rfl, rfl, rfl, rfl, rfl, rfl, rfl, trivial⟩ rfl (by decide))))
                · have ho := cnd0 ho hq104
                  cases ho
                  exact r_exit (fun fr h s => And.intro rfl (Exists.intro [] (s.pick [] ⟨rfl, rfl, rfl, rfl, rfl, rfl, rfl, rfl, trivial⟩ rfl (by decide))))
              · clear ht109
                rcases t109 with b111 | b112
                · have ho := alt_l ho
                  intro g113
                  show ∀ fr h, St _ [(0, .val (rSlice (rInt .i64)) (p_0)), (1, .val rBool (p_1)), (3, .val (rSlice (rInt .i64)) (p_3)), (9, .val (rInt .i64) (s61)), (40, .val (rInt .i64) (s61)), (41, .val rBool ((decide (s61 > 0)))), (42, .val rBool ((decide (s61 > 0)))), (53, .val rBool (false))] [] fr h → _
                  show SRun _ _ _ _ _ _
                  refine r_region ?_
                  refine s_move (.n rfl) rfl rfl (.t rfl) ?_
                  refine s_ar (.n rfl) rfl rfl (.t rfl) (.i (by decide) (by decide)) .add ?_
                  refine s_assign (.n rfl) rfl rfl (.t rfl) ?_
                  cases ho
                  exact s_nil (fun fr h s => And.intro rfl (Exists.intro [] (s.pick [] ⟨rfl, rfl, rfl, rfl, trivial⟩ rfl (by decide))))
                · have ho := alt_r ho
                  intro g114
                  show ∀ fr h, St _ [(8, .val rBool (b112))] [] fr h → _
                  cases ho
                  exact id (fun fr h s => And.intro rfl (Exists.intro [] (s.pick [] ⟨rfl, trivial⟩ rfl (by decide))))
        · have ho := cnd0 ho hq63
          cases ho
          exact r_exit (fun fr h s => And.intro rfl (Exists.intro [] (s.pick [] trivial rfl (by decide))))
      · clear ht115
        rcases t115 with b117 | b118
        · have ho := alt_l ho
          intro g119
          show ∀ fr h, St _ [] [] fr h → _
          show SRun _ _ _ _ _ _
          refine r_seq ?_
          refine r_region ?_
          refine s_assign (.n rfl) rfl rfl .b ?_
          refine s_nilq rfl ?_
          cases ho
          exact r_ret (ret_of (.inr rfl) (.v rfl .n) (by decide))
        · have ho := alt_r ho
          intro g120
          show ∀ fr h, St _ [(8, .val rBool (b118))] [] fr h → _
          cases ho
          exact id (ret_of (.inr rfl) (.v rfl .n) (by decide))
theorem g_law09_used_ok {order_0 : (List Int)} {through_1 : Bool} {tracks_2 : (List Int)} {out : (Int × Bool)} (ho : g_law09_used order_0 through_1 tracks_2 = some out) : Fun ktab 30 [.val (rSlice (rInt .i64)) order_0, .val rBool through_1, .val (rSlice (rInt .i64)) tracks_2] [.val (rInt .i64) (out.1), .val rBool (out.2)] := by
  refine fun_of (F := Try.f30) (by rfl) (by rfl) (by rfl) (fun C hC => ?_)
  delta g_law09_used at ho
  refine r_seq ?_
  refine r_region ?_
  refine s_assign (.n rfl) rfl rfl (.i (by decide) (by decide)) ?_
  refine s_assign (.n rfl) rfl rfl .b ?_
  refine s_nilq rfl ?_
  refine r_seq ?_
  refine r_seq ?_
  refine r_region ?_
  refine s_move (.n rfl) rfl rfl (.t rfl) ?_
  refine s_len S22 (.n rfl) rfl rfl rfl rfl rfl (.t rfl) ?_
  refine s_move (.n rfl) rfl rfl (.t rfl) ?_
  refine s_len S22 (.n rfl) rfl rfl rfl rfl rfl (.t rfl) ?_
  refine s_cmp (.n rfl) rfl rfl (.t rfl) (.t rfl) .neq ?_
  refine s_nilq rfl ?_
  refine r_cond (.t rfl) (fun hq1 => ?_) (fun hq1 => ?_)
  · have ho := cnd1 ho hq1
    refine r_seq ?_
    refine r_region ?_
    refine s_assign (.n rfl) rfl rfl (.i (by decide) (by decide)) ?_
    refine s_assign (.n rfl) rfl rfl .b ?_
    refine s_nilq rfl ?_
    cases ho
    exact r_ret (ret_of (.inr rfl) (.v rfl (.v rfl .n)) (by decide))
  · have ho := cnd0 ho hq1
    refine r_skipq rfl ?_
    refine r_seq ?_
    refine r_region ?_
    refine s_assign (.n rfl) rfl rfl (.i (by decide) (by decide)) ?_
    refine s_nilq rfl ?_
    refine r_seq ?_
    refine r_seq ?_
    refine r_region ?_
    refine s_assign (.n rfl) rfl rfl (.i (by decide) (by decide)) ?_
    refine s_nilq rfl ?_
    refine r_block ?_
    obtain ⟨t48, ht48, ho⟩ := bnd ho
    refine r_loop (σ := (Int × Int)) (τ := (Int) ⊕ (Int × Bool)) (G := List AVal) (fun s g => ([(0, .val (rSlice (rInt .i64)) (order_0)), (1, .val rBool (through_1)), (2, .val (rSlice (rInt .i64)) (tracks_2)), (8, .val (rInt .i64) (s.1)), (9, .val (rInt .i64) (s.2))], [])) (altX (fun b => (.exit 0, fun g => ([(8, .val (rInt .i64) (b))], []))) (fun b => (.ret, fun g => ([(6, .val (rInt .i64) (b.1)), (7, .val rBool (b.2))], [])))) _ [] ht48 (fun fr h s => s.pick [] ⟨rfl, rfl, rfl, rfl, rfl, trivial⟩ rfl (by decide)) ?_ ?_ ?_
    · intro t
      rcases t with t | t
      · exact (show (.exit 0 : AExit) ≠ .normal from fun e => by cases e)
      · exact (show (.ret : AExit) ≠ .normal from fun e => by cases e)
    · clear ho
      intro s24 g25 r49 ho
      refine r_seq ?_
      refine r_seq ?_
      refine r_region ?_
      refine s_move (.n rfl) rfl rfl (.t rfl) ?_
      refine s_move (.n rfl) rfl rfl (.t rfl) ?_
      refine s_len S22 (.n rfl) rfl rfl rfl rfl rfl (.t rfl) ?_
      refine s_cmp (.n rfl) rfl rfl (.t rfl) (.t rfl) .lss ?_
      refine s_nilq rfl ?_
      refine r_cond (.t rfl) (fun hq26 => ?_) (fun hq26 => ?_)
      · have ho := cnd1 ho hq26
        refine r_skipq rfl ?_
        refine r_seq ?_
        refine r_block ?_
        refine r_seq ?_
        refine r_region ?_
        refine s_assign (.n rfl) rfl rfl .b ?_
        refine s_nilq rfl ?_
        refine r_seq ?_
        refine r_seq ?_
        refine r_region ?_
        refine s_assign (.n rfl) rfl rfl (.i (by decide) (by decide)) ?_
        refine s_nilq rfl ?_
        refine r_block ?_
        obtain ⟨t41, ht41, ho⟩ := bnd ho
        refine r_loop (σ := (Bool × Int)) (τ := (Bool) ⊕ (Int × Bool)) (G := List AVal) (fun s g => ([(0, .val (rSlice (rInt .i64)) (order_0)), (1, .val rBool (through_1)), (2, .val (rSlice (rInt .i64)) (tracks_2)), (8, .val (rInt .i64) (s24.1)), (9, .val (rInt .i64) (s24.2)), (10, .val rBool (s.1)), (11, .val (rInt .i64) (s.2))], [])) (altX (fun b => (.exit 2, fun g => ([(0, .val (rSlice (rInt .i64)) (order_0)), (1, .val rBool (through_1)), (2, .val (rSlice (rInt .i64)) (tracks_2)), (8, .val (rInt .i64) (s24.1)), (9, .val (rInt .i64) (s24.2)), (10, .val rBool (b))], []))) (fun b => (.ret, fun g => ([(6, .val (rInt .i64) (b.1)), (7, .val rBool (b.2))], [])))) _ [] ht41 (fun fr h s => s.pick [] ⟨rfl, rfl, rfl, rfl, rfl, rfl, rfl, trivial⟩ rfl (by decide)) ?_ ?_ ?_
        · intro t
          rcases t with t | t
          · exact (show (.exit 2 : AExit) ≠ .normal from fun e => by cases e)
          · exact (show (.ret : AExit) ≠ .normal from fun e => by cases e)
        · clear ho
          intro s33 g34 r42 ho
          refine r_seq ?_
          refine r_seq ?_
          refine r_region ?_
          refine s_move (.n rfl) rfl rfl (.t rfl) ?_
          refine s_move (.n rfl) rfl rfl (.t rfl) ?_
          refine s_cmp (.n rfl) rfl rfl (.t rfl) (.t rfl) .lss ?_
          refine s_nilq rfl ?_
          refine r_cond (.t rfl) (fun hq35 => ?_) (fun hq35 => ?_)
          · have ho := cnd1 ho hq35
            refine r_skipq rfl ?_
            refine r_seq ?_
            refine r_block ?_
            refine r_seq ?_
            refine r_draw [] (by kernel_rfl) ?_
            refine s_move (.n rfl) rfl rfl (.t rfl) ?_
            refine s_move (.n rfl) rfl rfl (.t rfl) ?_
            obtain ⟨x36, hx36, ho⟩ := bnd ho
            refine s_idx S22 hx36 (.n rfl) rfl rfl (.t rfl) (.t rfl) ?_
            refine s_load U3 (.n rfl) rfl rfl (.t rfl) ?_
            refine s_move (.n rfl) rfl rfl (.t rfl) ?_
            refine s_move (.n rfl) rfl rfl (.t rfl) ?_
            obtain ⟨x37, hx37, ho⟩ := bnd ho
            refine s_idx S22 hx37 (.n rfl) rfl rfl (.t rfl) (.t rfl) ?_
            refine s_load U3 (.n rfl) rfl rfl (.t rfl) ?_
            refine s_cmp (.n rfl) rfl rfl (.t rfl) (.t rfl) .eql ?_
            refine s_nilq rfl ?_
            refine r_cond (.t rfl) (fun hq38 => ?_) (fun hq38 => ?_)
            · have ho := cnd1 ho hq38
              refine r_seq ?_
              refine r_region ?_
              refine s_assign (.n rfl) rfl rfl .b ?_
              refine s_nilq rfl ?_
              refine r_seq ?_
              refine r_region ?_
              refine s_move (.n rfl) rfl rfl (.t rfl) ?_
              refine s_move (.n rfl) rfl rfl (.t rfl) ?_
              refine s_move (.n rfl) rfl rfl (.t rfl) ?_
              refine s_move (.n rfl) rfl rfl (.t rfl) ?_
              obtain ⟨y39, hy39, ho⟩ := bnd ho
              refine s_calll (g_ref09_InWay_ok hy39) (.v flat_bool .n) rfl (.n rfl) rfl rfl rfl .f (.c (.o (.t rfl)) (.c (.o (.t rfl)) (.c (.o (.t rfl)) (.c (.o (.t rfl)) .n)))) ?_
              show SOps _ _ _ _ _ _ _ _
              refine s_nilq rfl ?_
              refine r_cond (.t rfl) (fun hq40 => ?_) (fun hq40 => ?_)
              · have ho := cnd1 ho hq40
                refine r_seq ?_
                refine r_region ?_
                refine s_assign (.n rfl) rfl rfl (.i (by decide) (by decide)) ?_
                refine s_assign (.n rfl) rfl rfl .b ?_
                refine s_nilq rfl ?_
                cases ho
                exact r_ret (fun fr h s => And.intro rfl (Exists.intro [] (s.pick [] ⟨rfl, rfl, trivial⟩ rfl (by decide))))
              · have ho := cnd0 ho hq40
                refine r_skipq rfl ?_
                refine r_region ?_
                refine s_move (.n rfl) rfl rfl (.t rfl) ?_
                refine s_ar (.n rfl) rfl rfl (.t rfl) (.i (by decide) (by decide)) .add ?_
                refine s_assign (.n rfl) rfl rfl (.t rfl) ?_
                cases ho
                exact s_nil (fun fr h s => And.intro rfl (Exists.intro [] (s.pick [] ⟨rfl, rfl, rfl, rfl, rfl, rfl, rfl, trivial⟩ rfl (by decide))))
            · have ho := cnd0 ho hq38
              refine r_skipq rfl ?_
              refine r_region ?_
              refine s_move (.n rfl) rfl rfl (.t rfl) ?_
              refine s_ar (.n rfl) rfl rfl (.t rfl) (.i (by decide) (by decide)) .add ?_
              refine s_assign (.n rfl) rfl rfl (.t rfl) ?_
              cases ho
              exact s_nil (fun fr h s => And.intro rfl (Exists.intro [] (s.pick [] ⟨rfl, rfl, rfl, rfl, rfl, rfl, rfl, trivial⟩ rfl (by decide))))
          · have ho := cnd0 ho hq35
            cases ho
            exact r_exit (fun fr h s => And.intro rfl (Exists.intro [] (s.pick [] ⟨rfl, rfl, rfl, rfl, rfl, rfl, trivial⟩ rfl (by decide))))
        · clear ht41
          rcases t41 with b43 | b44
          · have ho := alt_l ho
            intro g45
            show ∀ fr h, St _ [(0, .val (rSlice (rInt .i64)) (order_0)), (1, .val rBool (through_1)), (2, .val (rSlice (rInt .i64)) (tracks_2)), (8, .val (rInt .i64) (s24.1)), (9, .val (rInt .i64) (s24.2)), (10, .val rBool (b43))] [] fr h → _
            show SRun _ _ _ _ _ _
            refine r_seq ?_
            refine r_region ?_
            refine s_move (.n rfl) rfl rfl (.t rfl) ?_
            refine s_nilq rfl ?_
            refine r_cond (.t rfl) (fun hq46 => ?_) (fun hq46 => ?_)
            · have ho := cnd1 ho hq46
              refine r_region ?_
              refine s_move (.n rfl) rfl rfl (.t rfl) ?_
              refine s_ar (.n rfl) rfl rfl (.t rfl) (.i (by decide) (by decide)) .add ?_
              refine s_assign (.n rfl) rfl rfl (.t rfl) ?_
              refine s_nilq rfl ?_
              refine r_region ?_
              refine s_move (.n rfl) rfl rfl (.t rfl) ?_
              refine s_ar (.n rfl) rfl rfl (.t rfl) (.i (by decide) (by decide)) .add ?_
              refine s_assign (.n rfl) rfl rfl (.t rfl) ?_
              cases ho
              exact s_nil (fun fr h s => And.intro rfl (Exists.intro [] (s.pick [] ⟨rfl, rfl, rfl, rfl, rfl, trivial⟩ rfl (by decide))))
            · have ho := cnd0 ho hq46
              refine r_skipq rfl ?_
              refine r_region ?_
              refine s_move (.n rfl) rfl rfl (.t rfl) ?_
              refine s_ar (.n rfl) rfl rfl (.t rfl) (.i (by decide) (by decide)) .add ?_
              refine s_assign (.n rfl) rfl rfl (.t rfl) ?_
              cases ho
              exact s_nil (fun fr h s => And.intro rfl (Exists.intro [] (s.pick [] ⟨rfl, rfl, rfl, rfl, rfl, trivial⟩ rfl (by decide))))
          · have ho := alt_r ho
            intro g47
            show ∀ fr h, St _ [(6, .val (rInt .i64) (b44.1)), (7, .val rBool (b44.2))] [] fr h → _
            cases ho
            exact id (fun fr h s => And.intro rfl (Exists.intro [] (s.pick [] ⟨rfl, rfl, trivial⟩ rfl (by decide))))
      · have ho := cnd0 ho hq26
        cases ho
        exact r_exit (fun fr h s => And.intro rfl (Exists.intro [] (s.pick [] ⟨rfl, trivial⟩ rfl (by decide))))
    · clear ht48
      rcases t48 with b50 | b51
      · have ho := alt_l ho
        intro g52
        show ∀ fr h, St _ [(8, .val (rInt .i64) (b50))] [] fr h → _
        show SRun _ _ _ _ _ _
        refine r_seq ?_
        refine r_region ?_
        refine s_move (.n rfl) rfl rfl (.t rfl) ?_
        refine s_assign (.n rfl) rfl rfl (.t rfl) ?_
        refine s_assign (.n rfl) rfl rfl .b ?_
        refine s_nilq rfl ?_
        cases ho
        exact r_ret (ret_of (.inr rfl) (.v rfl (.v rfl .n)) (by decide))
      · have ho := alt_r ho
        intro g53
        show ∀ fr h, St _ [(6, .val (rInt .i64) (b51.1)), (7, .val rBool (b51.2))] [] fr h → _
        cases ho
        exact id (ret_of (.inr rfl) (.v rfl (.v rfl .n)) (by decide))
theorem g_law09_DepotFewest_ok {p_0 : (List Int)} {p_1 : Bool} {p_2 : (List Int)} {p_3 : Int} {p_4 : (List Int)} {out : (Bool)} (ho : g_law09_DepotFewest p_0 p_1 p_2 p_3 p_4 = some out) : Fun ktab 9 [.val (rSlice (rInt .i64)) p_0, .val rBool p_1, .val (rSlice (rInt .i64)) p_2, .val (rInt .i64) p_3, .val (rSlice (rInt .i64)) p_4] [.val rBool (out)] := by
  refine fun_of (F := Try.f9) (by rfl) (by rfl) (by rfl) (fun C hC => ?_)
  delta g_law09_DepotFewest at ho
  refine r_seq ?_
  refine r_region ?_
  refine s_assign (.n rfl) rfl rfl .b ?_
  refine s_nilq rfl ?_
  refine r_seq ?_
  refine r_seq ?_
  obtain ⟨c5, hc5, ho⟩ := bnd ho
  refine r_cut (τ := (Bool)) (G := Unit) (fun t => (.normal, fun _ => ([(0, .val (rSlice (rInt .i64)) (p_0)), (1, .val rBool (p_1)), (2, .val (rSlice (rInt .i64)) (p_2)), (3, .val (rInt .i64) (p_3)), (4, .val (rSlice (rInt .i64)) (p_4)), (42, .val rBool (t))], []))) (t := c5) ?_ ?_
  · have ho := hc5
    clear hc5
    refine r_region ?_
    refine s_move (.n rfl) rfl rfl (.t rfl) ?_
    refine s_len S22 (.n rfl) rfl rfl rfl rfl rfl (.t rfl) ?_
    refine s_cmp (.n rfl) rfl rfl (.t rfl) (.i (by decide) (by decide)) .gtr ?_
    refine s_move (.n rfl) rfl rfl (.t rfl) ?_
    rcases Bool.eq_false_or_eq_true ((decide ((lenI p_0) > 40))) with hb6 | hb6
    · have ho := cnd1 ho hb6
      refine s_skip (.g rfl rfl (gf1 hb6)) rfl ?_
      refine s_skip (.g rfl rfl (gf1 hb6)) rfl ?_
      refine s_skip (.g rfl rfl (gf1 hb6)) rfl ?_
      refine s_pk1 hb6 (.n rfl) rfl rfl (.t rfl) .b ?_
      refine s_move (.n rfl) rfl rfl (.t rfl) ?_
      refine s_skip (.g rfl rfl rfl) rfl ?_
      refine s_skip (.g rfl rfl rfl) rfl ?_
      refine s_skip (.g rfl rfl rfl) rfl ?_
      refine s_pick1 (.n rfl) rfl rfl (.t rfl) .b ?_
      refine s_move (.n rfl) rfl rfl (.t rfl) ?_
      refine s_skip (.g rfl rfl rfl) rfl ?_
      refine s_skip (.g rfl rfl rfl) rfl ?_
      refine s_skip (.g rfl rfl rfl) rfl ?_
      refine s_pick1 (.n rfl) rfl rfl (.t rfl) .b ?_
      cases ho
      exact s_nil (fun fr h s => And.intro rfl (Exists.intro () (s.pick [] ⟨rfl, rfl, rfl, rfl, rfl, rfl, trivial⟩ rfl (by decide))))
    · have ho := cnd0 ho hb6
      refine s_move (.g rfl rfl (gf0 hb6)) rfl rfl (.t rfl) ?_
      obtain ⟨y7, hy7, ho⟩ := bnd ho
      refine s_calll (g_ref09_Order_ok hy7) (.v flat_bool .n) rfl (.g rfl rfl (gf0 hb6)) rfl rfl rfl .f (.c (.o (.t rfl)) .n) ?_
      show SOps _ _ _ _ _ _ _ _
      refine s_not (.g rfl rfl (gf0 hb6)) rfl rfl (.t rfl) ?_
      refine s_pk0 hb6 (.n rfl) rfl rfl (.t rfl) (.t rfl) ?_
      refine s_move (.n rfl) rfl rfl (.t rfl) ?_
      rcases Bool.eq_false_or_eq_true ((!y7)) with hb8 | hb8
      · have ho := cnd1 ho hb8
        refine s_skip (.g rfl rfl (gf1 hb8)) rfl ?_
        refine s_skip (.g rfl rfl (gf1 hb8)) rfl ?_
        refine s_skip (.g rfl rfl (gf1 hb8)) rfl ?_
        refine s_pk1 hb8 (.n rfl) rfl rfl (.t rfl) .b ?_
        refine s_move (.n rfl) rfl rfl (.t rfl) ?_
        refine s_skip (.g rfl rfl rfl) rfl ?_
        refine s_skip (.g rfl rfl rfl) rfl ?_
        refine s_skip (.g rfl rfl rfl) rfl ?_
        refine s_pick1 (.n rfl) rfl rfl (.t rfl) .b ?_
        cases ho
        exact s_nil (fun fr h s => And.intro rfl (Exists.intro () (s.pick [] ⟨rfl, rfl, rfl, rfl, rfl, rfl, trivial⟩ rfl (by decide))))
      · have ho := cnd0 ho hb8
        refine s_move (.g rfl rfl (gf0 hb8)) rfl rfl (.t rfl) ?_
        refine s_len S22 (.g rfl rfl (gf0 hb8)) rfl rfl rfl rfl rfl (.t rfl) ?_
        refine s_cmp (.g rfl rfl (gf0 hb8)) rfl rfl (.t rfl) (.i (by decide) (by decide)) .gtr ?_
        refine s_pk0 hb8 (.n rfl) rfl rfl (.t rfl) (.t rfl) ?_
        refine s_move (.n rfl) rfl rfl (.t rfl) ?_
        rcases Bool.eq_false_or_eq_true ((decide ((lenI p_2) > 40))) with hb9 | hb9
        · have ho := cnd1 ho hb9
          refine s_skip (.g rfl rfl (gf1 hb9)) rfl ?_
          refine s_skip (.g rfl rfl (gf1 hb9)) rfl ?_
          refine s_skip (.g rfl rfl (gf1 hb9)) rfl ?_
          refine s_pk1 hb9 (.n rfl) rfl rfl (.t rfl) .b ?_
          cases ho
          exact s_nil (fun fr h s => And.intro rfl (Exists.intro () (s.pick [] ⟨rfl, rfl, rfl, rfl, rfl, rfl, trivial⟩ rfl (by decide))))
        · have ho := cnd0 ho hb9
          refine s_move (.g rfl rfl (gf0 hb9)) rfl rfl (.t rfl) ?_
          refine s_len S22 (.g rfl rfl (gf0 hb9)) rfl rfl rfl rfl rfl (.t rfl) ?_
          refine s_cmp (.g rfl rfl (gf0 hb9)) rfl rfl (.t rfl) (.i (by decide) (by decide)) .gtr ?_
          refine s_pk0 hb9 (.n rfl) rfl rfl (.t rfl) (.t rfl) ?_
          cases ho
          exact s_nil (fun fr h s => And.intro rfl (Exists.intro () (s.pick [] ⟨rfl, rfl, rfl, rfl, rfl, rfl, trivial⟩ rfl (by decide))))
  · intro _
    show SRun _ _ _ _ _ _
    refine r_cond (.t rfl) (fun hq10 => ?_) (fun hq10 => ?_)
    · have ho := cnd1 ho hq10
      refine r_seq ?_
      refine r_region ?_
      refine s_const (v := .bool true) (e := .val rBool true) rfl known_te (.n rfl) rfl rfl rfl .f rfl ?_
      refine s_assign (.n rfl) rfl rfl (.t rfl) ?_
      refine s_nilq rfl ?_
      cases ho
      exact r_ret (ret_of (.inr rfl) (.v rfl .n) (by decide))
    · have ho := cnd0 ho hq10
      refine r_skipq rfl ?_
      refine r_seq ?_
      refine r_region ?_
      refine s_move (.n rfl) rfl rfl (.t rfl) ?_
      refine s_move (.n rfl) rfl rfl (.t rfl) ?_
      obtain ⟨y11, hy11, ho⟩ := bnd ho
      refine s_call (pre := []) (post := []) (vs := []) (g_depot_Assign_ok hy11) rfl (.n rfl) rfl rfl rfl .f (.c (.t rfl) (.c (.t rfl) .n)) ?_
      intro v12 v14
      show SOps _ _ _ _ _ _ _ _
      refine s_move (.n rfl) rfl rfl (.t rfl) ?_
      refine s_ext rfl (.n rfl) rfl rfl (.t rfl) ?_
      refine s_ext rfl (.n rfl) rfl rfl (.t rfl) ?_
      refine s_ext rfl (.n rfl) rfl rfl (.t rfl) ?_
      refine s_assign (.n rfl) rfl rfl (.t rfl) ?_
      refine s_assign (.n rfl) rfl rfl (.t rfl) ?_
      refine s_assign (.n rfl) rfl rfl (.t rfl) ?_
      refine s_nilq rfl ?_
      refine r_seq ?_
      refine r_seq ?_
      refine r_region ?_
      refine s_move (.n rfl) rfl rfl (.t rfl) ?_
      refine s_cmp (.n rfl) rfl rfl (.t rfl) (.i (by decide) (by decide)) .neq ?_
      refine s_nilq rfl ?_
      refine r_cond (.t rfl) (fun hq16 => ?_) (fun hq16 => ?_)
      · have ho := cnd1 ho hq16
        refine r_seq ?_
        refine r_region ?_
        refine s_assign (.n rfl) rfl rfl .b ?_
        refine s_nilq rfl ?_
        cases ho
        exact r_ret (ret_of (.inr rfl) (.v rfl .n) (by decide))
      · have ho := cnd0 ho hq16
        refine r_skipq rfl ?_
        refine r_seq ?_
        refine r_region ?_
        refine s_move (.n rfl) rfl rfl (.t rfl) ?_
        refine s_move (.n rfl) rfl rfl (.t rfl) ?_
        refine s_move (.n rfl) rfl rfl (.t rfl) ?_
        obtain ⟨y17, hy17, ho⟩ := bnd ho
        refine s_calll (g_law09_used_ok hy17) (.v flat_int (.v flat_bool .n)) rfl (.n rfl) rfl rfl rfl .f (.c (.o (.t rfl)) (.c (.o (.t rfl)) (.c (.r 0 (.t rfl) rfl) .n))) ?_
        show SOps _ _ _ _ _ _ _ _
        refine s_move (.n rfl) rfl rfl (.t rfl) ?_
        refine s_ext rfl (.n rfl) rfl rfl (.t rfl) ?_
        refine s_ext rfl (.n rfl) rfl rfl (.t rfl) ?_
        refine s_assign (.n rfl) rfl rfl (.t rfl) ?_
        refine s_assign (.n rfl) rfl rfl (.t rfl) ?_
        refine s_nilq rfl ?_
        refine r_seq ?_
        refine r_seq ?_
        obtain ⟨c22, hc22, ho⟩ := bnd ho
        refine r_cut (τ := (Bool)) (G := Unit) (fun t => (.normal, fun _ => ([(0, .val (rSlice (rInt .i64)) (p_0)), (1, .val rBool (p_1)), (2, .val (rSlice (rInt .i64)) (p_2)), (3, .val (rInt .i64) (p_3)), (4, .val (rSlice (rInt .i64)) (p_4)), (14, .val (rInt .i64) (y17.1)), (77, .val rBool (t))], [(v12, .row (rInt .i64) (y11.1)), (v14, .row (rInt .i64) (y11.2.1))]))) (t := c22) ?_ ?_
        · have ho := hc22
          clear hc22
          refine r_region ?_
          refine s_move (.n rfl) rfl rfl (.t rfl) ?_
          refine s_not (.n rfl) rfl rfl (.t rfl) ?_
          refine s_move (.n rfl) rfl rfl (.t rfl) ?_
          rcases Bool.eq_false_or_eq_true ((!y17.2)) with hb23 | hb23
          · have ho := cnd1 ho hb23
            refine s_skip (.g rfl rfl (gf1 hb23)) rfl ?_
            refine s_skip (.g rfl rfl (gf1 hb23)) rfl ?_
            refine s_skip (.g rfl rfl (gf1 hb23)) rfl ?_
            refine s_skip (.g rfl rfl (gf1 hb23)) rfl ?_
            refine s_skip (.g rfl rfl (gf1 hb23)) rfl ?_
            refine s_skip (.g rfl rfl (gf1 hb23)) rfl ?_
            refine s_pk1 hb23 (.n rfl) rfl rfl (.t rfl) .b ?_
            refine s_move (.n rfl) rfl rfl (.t rfl) ?_
            refine s_skip (.g rfl rfl rfl) rfl ?_
            refine s_skip (.g rfl rfl rfl) rfl ?_
            refine s_skip (.g rfl rfl rfl) rfl ?_
            refine s_skip (.g rfl rfl rfl) rfl ?_
            refine s_skip (.g rfl rfl rfl) rfl ?_
            refine s_skip (.g rfl rfl rfl) rfl ?_
            refine s_pick1 (.n rfl) rfl rfl (.t rfl) .b ?_
            cases ho
            exact s_nil (fun fr h s => And.intro rfl (Exists.intro () (s.pick [0, 1] ⟨rfl, rfl, rfl, rfl, rfl, rfl, rfl, trivial⟩ rfl (by decide))))
          · have ho := cnd0 ho hb23
            refine s_move (.g rfl rfl (gf0 hb23)) rfl rfl (.t rfl) ?_
            refine s_move (.g rfl rfl (gf0 hb23)) rfl rfl (.t rfl) ?_
            refine s_move (.g rfl rfl (gf0 hb23)) rfl rfl (.t rfl) ?_
            refine s_move (.g rfl rfl (gf0 hb23)) rfl rfl (.t rfl) ?_
            obtain ⟨y24, hy24, ho⟩ := bnd ho
            refine s_calll (g_depot_Proves_ok hy24) (.v flat_bool .n) rfl (.g rfl rfl (gf0 hb23)) rfl rfl rfl .f (.c (.o (.t rfl)) (.c (.o (.t rfl)) (.c (.o (.t rfl)) (.c (.r 1 (.t rfl) rfl) .n)))) ?_
            show SOps _ _ _ _ _ _ _ _
            refine s_not (.g rfl rfl (gf0 hb23)) rfl rfl (.t rfl) ?_
            refine s_pk0 hb23 (.n rfl) rfl rfl (.t rfl) (.t rfl) ?_
            refine s_move (.n rfl) rfl rfl (.t rfl) ?_
            rcases Bool.eq_false_or_eq_true ((!y24)) with hb25 | hb25
            · have ho := cnd1 ho hb25
              refine s_skip (.g rfl rfl (gf1 hb25)) rfl ?_
              refine s_skip (.g rfl rfl (gf1 hb25)) rfl ?_
              refine s_skip (.g rfl rfl (gf1 hb25)) rfl ?_
              refine s_skip (.g rfl rfl (gf1 hb25)) rfl ?_
              refine s_skip (.g rfl rfl (gf1 hb25)) rfl ?_
              refine s_skip (.g rfl rfl (gf1 hb25)) rfl ?_
              refine s_pk1 hb25 (.n rfl) rfl rfl (.t rfl) .b ?_
              cases ho
              exact s_nil (fun fr h s => And.intro rfl (Exists.intro () (s.pick [0, 1] ⟨rfl, rfl, rfl, rfl, rfl, rfl, rfl, trivial⟩ rfl (by decide))))
            · have ho := cnd0 ho hb25
              refine s_move (.g rfl rfl (gf0 hb25)) rfl rfl (.t rfl) ?_
              refine s_move (.g rfl rfl (gf0 hb25)) rfl rfl (.t rfl) ?_
              refine s_move (.g rfl rfl (gf0 hb25)) rfl rfl (.t rfl) ?_
              refine s_move (.g rfl rfl (gf0 hb25)) rfl rfl (.t rfl) ?_
              obtain ⟨y26, hy26, ho⟩ := bnd ho
              refine s_calll (g_ref09_Proves_ok hy26) (.v flat_bool .n) rfl (.g rfl rfl (gf0 hb25)) rfl rfl rfl .f (.c (.o (.t rfl)) (.c (.o (.t rfl)) (.c (.o (.t rfl)) (.c (.r 1 (.t rfl) rfl) .n)))) ?_
              show SOps _ _ _ _ _ _ _ _
              refine s_not (.g rfl rfl (gf0 hb25)) rfl rfl (.t rfl) ?_
              refine s_pk0 hb25 (.n rfl) rfl rfl (.t rfl) (.t rfl) ?_
              cases ho
              exact s_nil (fun fr h s => And.intro rfl (Exists.intro () (s.pick [0, 1] ⟨rfl, rfl, rfl, rfl, rfl, rfl, rfl, trivial⟩ rfl (by decide))))
        · intro _
          show SRun _ _ _ _ _ _
          refine r_cond (.t rfl) (fun hq27 => ?_) (fun hq27 => ?_)
          · have ho := cnd1 ho hq27
            refine r_seq ?_
            refine r_region ?_
            refine s_assign (.n rfl) rfl rfl .b ?_
            refine s_nilq rfl ?_
            cases ho
            exact r_ret (ret_of (.inr rfl) (.v rfl .n) (by decide))
          · have ho := cnd0 ho hq27
            refine r_skipq rfl ?_
            refine r_seq ?_
            refine r_seq ?_
            refine r_region ?_
            refine s_move (.n rfl) rfl rfl (.t rfl) ?_
            refine s_move (.n rfl) rfl rfl (.t rfl) ?_
            refine s_move (.n rfl) rfl rfl (.t rfl) ?_
            obtain ⟨y28, hy28, ho⟩ := bnd ho
            refine s_calll (g_law09_used_ok hy28) (.v flat_int (.v flat_bool .n)) rfl (.n rfl) rfl rfl rfl .f (.c (.o (.t rfl)) (.c (.o (.t rfl)) (.c (.o (.t rfl)) .n))) ?_
            show SOps _ _ _ _ _ _ _ _
            refine s_move (.n rfl) rfl rfl (.t rfl) ?_
            refine s_ext rfl (.n rfl) rfl rfl (.t rfl) ?_
            refine s_ext rfl (.n rfl) rfl rfl (.t rfl) ?_
            refine s_assign (.n rfl) rfl rfl (.t rfl) ?_
            refine s_assign (.n rfl) rfl rfl (.t rfl) ?_
            refine s_nilq rfl ?_
            refine r_seq ?_
            obtain ⟨c30, hc30, ho⟩ := bnd ho
            refine r_cut (τ := (Bool)) (G := Unit) (fun t => (.normal, fun _ => ([(0, .val (rSlice (rInt .i64)) (p_0)), (1, .val rBool (p_1)), (3, .val (rInt .i64) (p_3)), (4, .val (rSlice (rInt .i64)) (p_4)), (14, .val (rInt .i64) (y17.1)), (90, .val rBool (t))], [(v12, .row (rInt .i64) (y11.1)), (v14, .row (rInt .i64) (y11.2.1))]))) (t := c30) ?_ ?_
            · have ho := hc30
              clear hc30
              refine r_region ?_
              refine s_move (.n rfl) rfl rfl (.t rfl) ?_
              refine s_move (.n rfl) rfl rfl (.t rfl) ?_
              rcases Bool.eq_false_or_eq_true (y28.2) with hb31 | hb31
              · have ho := cnd1 ho hb31
                refine s_move (.g rfl rfl (gt1 hb31)) rfl rfl (.t rfl) ?_
                refine s_move (.g rfl rfl (gt1 hb31)) rfl rfl (.t rfl) ?_
                refine s_cmp (.g rfl rfl (gt1 hb31)) rfl rfl (.t rfl) (.t rfl) .lss ?_
                refine s_pk1 hb31 (.n rfl) rfl rfl (.t rfl) (.t rfl) ?_
                cases ho
                exact s_nil (fun fr h s => And.intro rfl (Exists.intro () (s.pick [0, 1] ⟨rfl, rfl, rfl, rfl, rfl, rfl, trivial⟩ rfl (by decide))))
              · have ho := cnd0 ho hb31
                refine s_skip (.g rfl rfl (gt0 hb31)) rfl ?_
                refine s_skip (.g rfl rfl (gt0 hb31)) rfl ?_
                refine s_skip (.g rfl rfl (gt0 hb31)) rfl ?_
                refine s_pk0 hb31 (.n rfl) rfl rfl (.t rfl) .b ?_
                cases ho
                exact s_nil (fun fr h s => And.intro rfl (Exists.intro () (s.pick [0, 1] ⟨rfl, rfl, rfl, rfl, rfl, rfl, trivial⟩ rfl (by decide))))
            · intro _
              show SRun _ _ _ _ _ _
              refine r_cond (.t rfl) (fun hq32 => ?_) (fun hq32 => ?_)
              · have ho := cnd1 ho hq32
                refine r_seq ?_
                refine r_region ?_
                refine s_assign (.n rfl) rfl rfl .b ?_
                refine s_nilq rfl ?_
                cases ho
                exact r_ret (ret_of (.inr rfl) (.v rfl .n) (by decide))
              · have ho := cnd0 ho hq32
                refine r_skipq rfl ?_
                refine r_seq ?_
                refine r_seq ?_
                obtain ⟨c35, hc35, ho⟩ := bnd ho
                refine r_cut (τ := (Bool)) (G := Unit) (fun t => (.normal, fun _ => ([(0, .val (rSlice (rInt .i64)) (p_0)), (1, .val rBool (p_1)), (14, .val (rInt .i64) (y17.1)), (100, .val rBool (t))], [(v12, .row (rInt .i64) (y11.1)), (v14, .row (rInt .i64) (y11.2.1))]))) (t := c35) ?_ ?_
                · have ho := hc35
                  clear hc35
                  refine r_region ?_
                  refine s_move (.n rfl) rfl rfl (.t rfl) ?_
                  refine s_move (.n rfl) rfl rfl (.t rfl) ?_
                  refine s_move (.n rfl) rfl rfl (.t rfl) ?_
                  refine s_move (.n rfl) rfl rfl (.t rfl) ?_
                  obtain ⟨y36, hy36, ho⟩ := bnd ho
                  refine s_calll (g_depot_Proves_ok hy36) (.v flat_bool .n) rfl (.n rfl) rfl rfl rfl .f (.c (.o (.t rfl)) (.c (.o (.t rfl)) (.c (.o (.t rfl)) (.c (.o (.t rfl)) .n)))) ?_
                  show SOps _ _ _ _ _ _ _ _
                  refine s_move (.n rfl) rfl rfl (.t rfl) ?_
                  rcases Bool.eq_false_or_eq_true (y36) with hb37 | hb37
                  · have ho := cnd1 ho hb37
                    refine s_move (.g rfl rfl (gt1 hb37)) rfl rfl (.t rfl) ?_
                    refine s_move (.g rfl rfl (gt1 hb37)) rfl rfl (.t rfl) ?_
                    refine s_cmp (.g rfl rfl (gt1 hb37)) rfl rfl (.t rfl) (.t rfl) .gtr ?_
                    refine s_pk1 hb37 (.n rfl) rfl rfl (.t rfl) (.t rfl) ?_
                    cases ho
                    exact s_nil (fun fr h s => And.intro rfl (Exists.intro () (s.pick [0, 1] ⟨rfl, rfl, rfl, rfl, trivial⟩ rfl (by decide))))
                  · have ho := cnd0 ho hb37
                    refine s_skip (.g rfl rfl (gt0 hb37)) rfl ?_
                    refine s_skip (.g rfl rfl (gt0 hb37)) rfl ?_
                    refine s_skip (.g rfl rfl (gt0 hb37)) rfl ?_
                    refine s_pk0 hb37 (.n rfl) rfl rfl (.t rfl) .b ?_
                    cases ho
                    exact s_nil (fun fr h s => And.intro rfl (Exists.intro () (s.pick [0, 1] ⟨rfl, rfl, rfl, rfl, trivial⟩ rfl (by decide))))
                · intro _
                  show SRun _ _ _ _ _ _
                  refine r_cond (.t rfl) (fun hq38 => ?_) (fun hq38 => ?_)
                  · have ho := cnd1 ho hq38
                    refine r_seq ?_
                    refine r_region ?_
                    refine s_assign (.n rfl) rfl rfl .b ?_
                    refine s_nilq rfl ?_
                    cases ho
                    exact r_ret (ret_of (.inr rfl) (.v rfl .n) (by decide))
                  · have ho := cnd0 ho hq38
                    refine r_skipq rfl ?_
                    refine r_seq ?_
                    refine r_region ?_
                    refine s_st (st_nilrow (rInt .i64)) ?_
                    refine s_assign (.n rfl) rfl rfl .nilr ?_
                    refine s_nilq rfl ?_
                    refine r_seq ?_
                    refine r_seq ?_
                    refine r_region ?_
                    refine s_move (.n rfl) rfl rfl (.t rfl) ?_
                    refine s_len S22 (.n rfl) rfl rfl rfl rfl rfl (.t rfl) ?_
                    refine s_ar (.n rfl) rfl rfl (.t rfl) (.i (by decide) (by decide)) .sub ?_
                    refine s_assign (.n rfl) rfl rfl (.t rfl) ?_
                    refine s_nilq rfl ?_
                    refine r_block ?_
                    obtain ⟨t57, ht57, ho⟩ := bnd ho
                    refine r_loop (σ := ((List Int) × Int)) (τ := ((List Int))) (G := List AVal) (fun s g => ([(0, .val (rSlice (rInt .i64)) (p_0)), (1, .val rBool (p_1)), (14, .val (rInt .i64) (y17.1)), (18, .raw ((gh g 0))), (19, .val (rInt .i64) (s.2))], [((gh g 0), .row (rInt .i64) (s.1))])) (fun b => (.exit 0, fun g => ([(1, .val rBool (p_1)), (14, .val (rInt .i64) (y17.1)), (18, .raw ((gh g 0)))], [((gh g 0), .row (rInt .i64) (b))]))) _ [.nilslice] ht57 (fun fr h s => s.pick [0] ⟨rfl, rfl, rfl, rfl, rfl, trivial⟩ rfl (by decide)) ?_ ?_ ?_
                    · intro t
                      exact (show (.exit 0 : AExit) ≠ .normal from fun e => by cases e)
                    · clear ho
                      intro s46 g47 r58 ho
                      refine r_seq ?_
                      refine r_seq ?_
                      refine r_region ?_
                      refine s_move (.n rfl) rfl rfl (.t rfl) ?_
                      refine s_cmp (.n rfl) rfl rfl (.t rfl) (.i (by decide) (by decide)) .geq ?_
                      refine s_nilq rfl ?_
                      refine r_cond (.t rfl) (fun hq51 => ?_) (fun hq51 => ?_)
                      · have ho := cnd1 ho hq51
                        refine r_skipq rfl ?_
                        refine r_seq ?_
                        refine r_block ?_
                        refine r_region ?_
                        refine s_move (.n rfl) rfl rfl (.t rfl) ?_
                        refine s_move (.n rfl) rfl rfl (.t rfl) ?_
                        refine s_move (.n rfl) rfl rfl (.t rfl) ?_
                        obtain ⟨x52, hx52, ho⟩ := bnd ho
                        refine s_idx S22 hx52 (.n rfl) rfl rfl (.t rfl) (.t rfl) ?_
                        refine s_load U3 (.n rfl) rfl rfl (.t rfl) ?_
                        refine s_bs (R := (rInt .i64)) S22 Y3 (.n rfl) rfl rfl (.c (.t rfl) .n) rfl (by decide) ?_
                        obtain ⟨x53, hx53, ho⟩ := bnd ho
                        refine s_app 0 S22 Y3 hx53 (.n rfl) rfl rfl rfl rfl rfl (.t rfl) rfl (.t rfl) rfl ?_
                        intro v54
                        refine s_assign (.n rfl) rfl rfl (.t rfl) ?_
                        refine s_nilq rfl ?_
                        refine r_region ?_
                        refine s_move (.n rfl) rfl rfl (.t rfl) ?_
                        refine s_ar (.n rfl) rfl rfl (.t rfl) (.i (by decide) (by decide)) .sub ?_
                        refine s_assign (.n rfl) rfl rfl (.t rfl) ?_
                        cases ho
                        exact s_nil (fun fr h s => And.intro rfl (Exists.intro [v54] (s.pick [0] ⟨rfl, rfl, rfl, rfl, rfl, trivial⟩ rfl (by decide))))
                      · have ho := cnd0 ho hq51
                        cases ho
                        exact r_exit (fun fr h s => And.intro rfl (Exists.intro [(gh g47 0)] (s.pick [0] ⟨rfl, rfl, rfl, trivial⟩ rfl (by decide))))
                    · intro g59
                      show ∀ fr h, St _ [(1, .val rBool (p_1)), (14, .val (rInt .i64) (y17.1)), (18, .raw ((gh g59 0)))] [((gh g59 0), .row (rInt .i64) (t57))] fr h → _
                      show SRun _ _ _ _ _ _
                      refine r_seq ?_
                      refine r_region ?_
                      refine s_move (.n rfl) rfl rfl (.t rfl) ?_
                      refine s_move (.n rfl) rfl rfl (.t rfl) ?_
                      refine s_not (.n rfl) rfl rfl (.t rfl) ?_
                      refine s_st (st_freeze 0 [18, 116] rfl rfl ⟨rfl, rfl, trivial⟩) ?_
                      obtain ⟨y61, hy61, ho⟩ := bnd ho
                      refine s_call (pre := []) (post := []) (vs := []) (g_depot_Assign_ok hy61) rfl (.n rfl) rfl rfl rfl .f (.c (.t rfl) (.c (.t rfl) .n)) ?_
                      intro v62 v64
                      show SOps _ _ _ _ _ _ _ _
                      refine s_move (.n rfl) rfl rfl (.t rfl) ?_
                      refine s_ext rfl (.n rfl) rfl rfl (.t rfl) ?_
                      refine s_ext rfl (.n rfl) rfl rfl (.t rfl) ?_
                      refine s_ext rfl (.n rfl) rfl rfl (.t rfl) ?_
                      refine s_assign (.n rfl) rfl rfl (.t rfl) ?_
                      refine s_assign (.n rfl) rfl rfl (.t rfl) ?_
                      refine s_assign (.n rfl) rfl rfl (.t rfl) ?_
                      refine s_nilq rfl ?_
                      refine r_seq ?_
                      refine r_region ?_
                      refine s_move (.n rfl) rfl rfl (.t rfl) ?_
                      refine s_move (.n rfl) rfl rfl (.t rfl) ?_
                      refine s_not (.n rfl) rfl rfl (.t rfl) ?_
                      refine s_move (.n rfl) rfl rfl (.t rfl) ?_
                      obtain ⟨y66, hy66, ho⟩ := bnd ho
                      refine s_calll (g_law09_used_ok hy66) (.v flat_int (.v flat_bool .n)) rfl (.n rfl) rfl rfl rfl .f (.c (.o (.t rfl)) (.c (.o (.t rfl)) (.c (.r 0 (.t rfl) rfl) .n))) ?_
                      show SOps _ _ _ _ _ _ _ _
                      refine s_move (.n rfl) rfl rfl (.t rfl) ?_
                      refine s_ext rfl (.n rfl) rfl rfl (.t rfl) ?_
                      refine s_ext rfl (.n rfl) rfl rfl (.t rfl) ?_
                      refine s_assign (.n rfl) rfl rfl (.t rfl) ?_
                      refine s_assign (.n rfl) rfl rfl (.t rfl) ?_
                      refine s_nilq rfl ?_
                      refine r_seq ?_
                      obtain ⟨c70, hc70, ho⟩ := bnd ho
                      refine r_cut (τ := (Bool)) (G := Unit) (fun t => (.normal, fun _ => ([(10, .val rBool (t))], [(v62, .row (rInt .i64) (y61.1)), (v64, .row (rInt .i64) (y61.2.1))]))) (t := c70) ?_ ?_
                      · have ho := hc70
                        clear hc70
                        refine r_region ?_
                        refine s_move (.n rfl) rfl rfl (.t rfl) ?_
                        refine s_cmp (.n rfl) rfl rfl (.t rfl) (.i (by decide) (by decide)) .eql ?_
                        refine s_move (.n rfl) rfl rfl (.t rfl) ?_
                        rcases Bool.eq_false_or_eq_true ((y61.2.2 == 0)) with hb71 | hb71
                        · have ho := cnd1 ho hb71
                          refine s_move (.g rfl rfl (gt1 hb71)) rfl rfl (.t rfl) ?_
                          refine s_pk1 hb71 (.n rfl) rfl rfl (.t rfl) (.t rfl) ?_
                          refine s_move (.n rfl) rfl rfl (.t rfl) ?_
                          rcases Bool.eq_false_or_eq_true (y66.2) with hb72 | hb72
                          · have ho := cnd1 ho hb72
                            refine s_move (.g rfl rfl (gt1 hb72)) rfl rfl (.t rfl) ?_
                            refine s_move (.g rfl rfl (gt1 hb72)) rfl rfl (.t rfl) ?_
                            refine s_cmp (.g rfl rfl (gt1 hb72)) rfl rfl (.t rfl) (.t rfl) .eql ?_
                            refine s_pk1 hb72 (.n rfl) rfl rfl (.t rfl) (.t rfl) ?_
                            refine s_move (.n rfl) rfl rfl (.t rfl) ?_
                            rcases Bool.eq_false_or_eq_true ((y66.1 == y17.1)) with hb73 | hb73
                            · have ho := cnd1 ho hb73
                              refine s_const (v := .bool true) (e := .val rBool true) rfl known_te (.g rfl rfl (gt1 hb73)) rfl rfl rfl .f rfl ?_
                              refine s_pk1 hb73 (.n rfl) rfl rfl (.t rfl) (.t rfl) ?_
                              refine s_assign (.n rfl) rfl rfl (.t rfl) ?_
                              cases ho
                              exact s_nil (fun fr h s => And.intro rfl (Exists.intro () (s.pick [0, 1] ⟨rfl, trivial⟩ rfl (by decide))))
                            · have ho := cnd0 ho hb73
                              refine s_skip (.g rfl rfl (gt0 hb73)) rfl ?_
                              refine s_pk0 hb73 (.n rfl) rfl rfl (.t rfl) .b ?_
                              refine s_assign (.n rfl) rfl rfl (.t rfl) ?_
                              cases ho
                              exact s_nil (fun fr h s => And.intro rfl (Exists.intro () (s.pick [0, 1] ⟨rfl, trivial⟩ rfl (by decide))))
                          · have ho := cnd0 ho hb72
                            refine s_skip (.g rfl rfl (gt0 hb72)) rfl ?_
                            refine s_skip (.g rfl rfl (gt0 hb72)) rfl ?_
                            refine s_skip (.g rfl rfl (gt0 hb72)) rfl ?_
                            refine s_pk0 hb72 (.n rfl) rfl rfl (.t rfl) .b ?_
                            refine s_move (.n rfl) rfl rfl (.t rfl) ?_
                            refine s_skip (.g rfl rfl rfl) rfl ?_
                            refine s_pick0 (.n rfl) rfl rfl (.t rfl) .b ?_
                            refine s_assign (.n rfl) rfl rfl (.t rfl) ?_
                            cases ho
                            exact s_nil (fun fr h s => And.intro rfl (Exists.intro () (s.pick [0, 1] ⟨rfl, trivial⟩ rfl (by decide))))
                        · have ho := cnd0 ho hb71
                          refine s_skip (.g rfl rfl (gt0 hb71)) rfl ?_
                          refine s_pk0 hb71 (.n rfl) rfl rfl (.t rfl) .b ?_
                          refine s_move (.n rfl) rfl rfl (.t rfl) ?_
                          refine s_skip (.g rfl rfl rfl) rfl ?_
                          refine s_skip (.g rfl rfl rfl) rfl ?_
                          refine s_skip (.g rfl rfl rfl) rfl ?_
                          refine s_pick0 (.n rfl) rfl rfl (.t rfl) .b ?_
                          refine s_move (.n rfl) rfl rfl (.t rfl) ?_
                          refine s_skip (.g rfl rfl rfl) rfl ?_
                          refine s_pick0 (.n rfl) rfl rfl (.t rfl) .b ?_
                          refine s_assign (.n rfl) rfl rfl (.t rfl) ?_
                          cases ho
                          exact s_nil (fun fr h s => And.intro rfl (Exists.intro () (s.pick [0, 1] ⟨rfl, trivial⟩ rfl (by decide))))
                      · intro _
                        show SRun _ _ _ _ _ _
                        cases ho
                        exact r_ret (ret_of (.inr rfl) (.v rfl .n) (by decide))
end Go.Ai.TabYtpiblfbidgcjaaa
