/- Written by program: walks through functions. -/
import Derived.Test.YtpiblfbidgcjaaaFactC
namespace Go.Ai.TabYtpiblfbidgcjaaa
open Go Go.Ai Go.Ai.Sx Go.Proofs
attribute [local irreducible] SOps
set_option maxRecDepth 100000
theorem g_depot_within_ok {n_0 : Int} {low_1 : Int} {high_2 : Int} {out : (Bool)} (ho : g_depot_within n_0 low_1 high_2 = some out) : Fun ktab 56 [.val (rInt .i64) n_0, .val (rInt .i64) low_1, .val (rInt .i64) high_2] [.val rBool (out)] := by
  refine fun_of (F := Try.f56) (by rfl) (by rfl) (by rfl) (fun C hC => ?_)
  delta g_depot_within at ho
  refine r_seq ?_
  refine r_region ?_
  refine s_assign (.n rfl) rfl rfl .b ?_
  refine s_nilq rfl ?_
  refine r_seq ?_
  obtain ⟨c2, hc2, ho⟩ := bnd ho
  refine r_cut (τ := (Bool)) (G := Unit) (fun t => (.normal, fun _ => ([(6, .val rBool (t))], []))) (t := c2) ?_ ?_
  · have ho := hc2
    clear hc2
    refine r_region ?_
    refine s_move (.n rfl) rfl rfl (.t rfl) ?_
    refine s_move (.n rfl) rfl rfl (.t rfl) ?_
    refine s_cmp (.n rfl) rfl rfl (.t rfl) (.t rfl) .geq ?_
    refine s_move (.n rfl) rfl rfl (.t rfl) ?_
    rcases Bool.eq_false_or_eq_true ((decide (n_0 ≥ low_1))) with hb3 | hb3
    · have ho := cnd1 ho hb3
      refine s_move (.g rfl rfl (gt1 hb3)) rfl rfl (.t rfl) ?_
      refine s_move (.g rfl rfl (gt1 hb3)) rfl rfl (.t rfl) ?_
      refine s_cmp (.g rfl rfl (gt1 hb3)) rfl rfl (.t rfl) (.t rfl) .leq ?_
      refine s_pk1 hb3 (.n rfl) rfl rfl (.t rfl) (.t rfl) ?_
      refine s_assign (.n rfl) rfl rfl (.t rfl) ?_
      cases ho
      exact s_nil (fun fr h s => And.intro rfl (Exists.intro () (s.pick [] ⟨rfl, trivial⟩ rfl (by decide))))
    · have ho := cnd0 ho hb3
      refine s_skip (.g rfl rfl (gt0 hb3)) rfl ?_
      refine s_skip (.g rfl rfl (gt0 hb3)) rfl ?_
      refine s_skip (.g rfl rfl (gt0 hb3)) rfl ?_
      refine s_pk0 hb3 (.n rfl) rfl rfl (.t rfl) .b ?_
      refine s_assign (.n rfl) rfl rfl (.t rfl) ?_
      cases ho
      exact s_nil (fun fr h s => And.intro rfl (Exists.intro () (s.pick [] ⟨rfl, trivial⟩ rfl (by decide))))
  · intro _
    show SRun _ _ _ _ _ _
    cases ho
    exact r_ret (ret_of (.inr rfl) (.v rfl .n) (by decide))
theorem g_depot_permutation_ok {l_0 : (List Int)} {out : (Bool)} (ho : g_depot_permutation l_0 = some out) : Fun ktab 36 [.val (rSlice (rInt .i64)) l_0] [.val rBool (out)] := by
  refine fun_of (F := Try.f36) (by rfl) (by rfl) (by rfl) (fun C hC => ?_)
  delta g_depot_permutation at ho
  refine r_seq ?_
  refine r_region ?_
  refine s_assign (.n rfl) rfl rfl .b ?_
  refine s_nilq rfl ?_
  refine r_seq ?_
  refine r_region ?_
  refine s_move (.n rfl) rfl rfl (.t rfl) ?_
  refine s_len S22 (.n rfl) rfl rfl rfl rfl rfl (.t rfl) ?_
  obtain ⟨x1, hx1, ho⟩ := bnd ho
  refine s_mk S84 Y4 Z4 hx1 (.n rfl) rfl rfl (.t rfl) (.t rfl) ?_
  intro v2
  refine s_assign (.n rfl) rfl rfl (.t rfl) ?_
  refine s_nilq rfl ?_
  refine r_seq ?_
  refine r_seq ?_
  refine r_region ?_
  refine s_move (.n rfl) rfl rfl (.t rfl) ?_
  refine s_len S22 (.n rfl) rfl rfl rfl rfl rfl (.t rfl) ?_
  refine s_move (.n rfl) rfl rfl (.i (by decide) (by decide)) ?_
  refine s_nilq rfl ?_
  refine r_block ?_
  obtain ⟨t39, ht39, ho⟩ := bnd ho
  refine r_loop (σ := (Int × (List Bool))) (τ := ((List Bool)) ⊕ (Bool × (List Bool))) (G := List AVal) (fun s g => ([(0, .val (rSlice (rInt .i64)) (l_0)), (3, .raw v2), (9, .val (rSlice (rInt .i64)) (l_0)), (10, .val (rInt .i64) ((lenI l_0))), (11, .val (rInt .i64) (s.1))], [(v2, .row rBool (s.2))])) (altX (fun b => (.exit 0, fun g => ([], []))) (fun b => (.ret, fun g => ([(2, .val rBool (b.1))], [])))) _ [] ht39 (fun fr h s => s.pick [0] ⟨rfl, rfl, rfl, rfl, rfl, trivial⟩ rfl (by decide)) ?_ ?_ ?_
  · intro t
    rcases t with t | t
    · exact (show (.exit 0 : AExit) ≠ .normal from fun e => by cases e)
    · exact (show (.ret : AExit) ≠ .normal from fun e => by cases e)
  · clear ho
    intro s26 g27 r40 ho
    refine r_seq ?_
    refine r_region ?_
    refine s_cmp (.n rfl) rfl rfl (.t rfl) (.t rfl) .lss ?_
    refine s_nilq rfl ?_
    refine r_seq ?_
    refine r_cond (.t rfl) (fun hq28 => ?_) (fun hq28 => ?_)
    · have ho := cnd1 ho hq28
      refine r_skipq rfl ?_
      refine r_seq ?_
      refine r_block ?_
      refine r_seq ?_
      refine r_region ?_
      obtain ⟨x29, hx29, ho⟩ := bnd ho
      refine s_idx S22 hx29 (.n rfl) rfl rfl (.t rfl) (.t rfl) ?_
      refine s_load U3 (.n rfl) rfl rfl (.t rfl) ?_
      refine s_assign (.n rfl) rfl rfl (.t rfl) ?_
      refine s_nilq rfl ?_
      refine r_seq ?_
      refine r_seq ?_
      refine r_region ?_
      refine s_move (.n rfl) rfl rfl (.t rfl) ?_
      refine s_move (.n rfl) rfl rfl (.t rfl) ?_
      refine s_len S22 (.n rfl) rfl rfl rfl rfl rfl (.t rfl) ?_
      refine s_ar (.n rfl) rfl rfl (.t rfl) (.i (by decide) (by decide)) .sub ?_
      obtain ⟨y33, hy33, ho⟩ := bnd ho
      refine s_calll (g_depot_within_ok hy33) (.v flat_bool .n) rfl (.n rfl) rfl rfl rfl .f (.c (.o (.t rfl)) (.c (.o (.i (by decide) (by decide))) (.c (.o (.t rfl)) .n))) ?_
      show SOps _ _ _ _ _ _ _ _
      refine s_not (.n rfl) rfl rfl (.t rfl) ?_
      refine s_move (.n rfl) rfl rfl (.t rfl) ?_
      rcases Bool.eq_false_or_eq_true ((!y33)) with hb34 | hb34
      · have ho := cnd1 ho hb34
        refine s_skip (.g rfl rfl (gf1 hb34)) rfl ?_
        refine s_skip (.g rfl rfl (gf1 hb34)) rfl ?_
        refine s_skip (.g rfl rfl (gf1 hb34)) rfl ?_
        refine s_skip (.g rfl rfl (gf1 hb34)) rfl ?_
        refine s_pk1 hb34 (.n rfl) rfl rfl (.t rfl) .b ?_
        refine s_nilq rfl ?_
        refine r_cond (.t rfl) (fun _ => ?_) (fun hq => by cases hq)
        refine r_seq ?_
        refine r_region ?_
        refine s_assign (.n rfl) rfl rfl .b ?_
        refine s_nilq rfl ?_
        cases ho
        exact r_ret (fun fr h s => And.intro rfl (Exists.intro [] (s.pick [] ⟨rfl, trivial⟩ rfl (by decide))))
      · have ho := cnd0 ho hb34
        refine s_move (.g rfl rfl (gf0 hb34)) rfl rfl (.t rfl) ?_
        refine s_move (.g rfl rfl (gf0 hb34)) rfl rfl (.t rfl) ?_
        obtain ⟨x36, hx36, ho⟩ := bnd ho
        refine s_idxo 0 S84 hx36 (.g rfl rfl (gf0 hb34)) rfl rfl (.t rfl) rfl (.t rfl) ?_
        refine s_loado 0 (fun _ h => by cases h <;> rfl) U4 FOk.self (idx_inv hx36).2.2.2 (.g rfl rfl (gf0 hb34)) rfl rfl (.t rfl) rfl ?_
        refine s_pk0 hb34 (.n rfl) rfl rfl (.t rfl) (.t rfl) ?_
        refine s_nilq rfl ?_
        refine r_cond (.t rfl) (fun hq37 => ?_) (fun hq37 => ?_)
        · have ho := cnd1 ho hq37
          refine r_seq ?_
          refine r_region ?_
          refine s_assign (.n rfl) rfl rfl .b ?_
          refine s_nilq rfl ?_
          cases ho
          exact r_ret (fun fr h s => And.intro rfl (Exists.intro [] (s.pick [] ⟨rfl, trivial⟩ rfl (by decide))))
        · have ho := cnd0 ho hq37
          refine r_skipq rfl ?_
          refine r_region ?_
          refine s_move (.n rfl) rfl rfl (.t rfl) ?_
          refine s_move (.n rfl) rfl rfl (.t rfl) ?_
          obtain ⟨x38, hx38, ho⟩ := bnd ho
          refine s_idxo 0 S84 hx38 (.n rfl) rfl rfl (.t rfl) rfl (.t rfl) ?_
          refine s_storeo 0 U4 FOk.self (idx_inv hx38).2.2.2 (.n rfl) rfl rfl (.t rfl) .b rfl rfl ?_
          refine s_nilq rfl ?_
          refine r_region ?_
          refine s_ar (.n rfl) rfl rfl (.t rfl) (.i (by decide) (by decide)) .add ?_
          refine s_move (.n rfl) rfl rfl (.t rfl) ?_
          cases ho
          exact s_nil (fun fr h s => And.intro rfl (Exists.intro [] (s.pick [0] ⟨rfl, rfl, rfl, rfl, rfl, trivial⟩ rfl (by decide))))
    · have ho := cnd0 ho hq28
      cases ho
      exact r_exit (fun fr h s => And.intro rfl (Exists.intro [] (s.pick [] trivial rfl (by decide))))
  · clear ht39
    rcases t39 with b41 | b42
    · have ho := alt_l ho
      intro g43
      show ∀ fr h, St _ [] [] fr h → _
      show SRun _ _ _ _ _ _
      refine r_seq ?_
      refine r_region ?_
      refine s_assign (.n rfl) rfl rfl .b ?_
      refine s_nilq rfl ?_
      cases ho
      exact r_ret (ret_of (.inr rfl) (.v rfl .n) (by decide))
    · have ho := alt_r ho
      intro g44
      show ∀ fr h, St _ [(2, .val rBool (b42.1))] [] fr h → _
      cases ho
      exact id (ret_of (.inr rfl) (.v rfl .n) (by decide))
theorem g_depot_leaving_through_ok {l_0 : (List Int)} {i_1 : Int} {j_2 : Int} {out : (Bool)} (ho : g_depot_leaving_through l_0 i_1 j_2 = some out) : Fun ktab 62 [.val (rSlice (rInt .i64)) l_0, .val (rInt .i64) i_1, .val (rInt .i64) j_2] [.val rBool (out)] := by
  refine fun_of (F := Try.f62) (by rfl) (by rfl) (by rfl) (fun C hC => ?_)
  delta g_depot_leaving_through at ho
  refine r_seq ?_
  refine r_region ?_
  refine s_assign (.n rfl) rfl rfl .b ?_
  refine s_nilq rfl ?_
  refine r_seq ?_
  refine r_draw [] (by kernel_rfl) ?_
  refine s_move (.n rfl) rfl rfl (.t rfl) ?_
  refine s_move (.n rfl) rfl rfl (.t rfl) ?_
  obtain ⟨x1, hx1, ho⟩ := bnd ho
  refine s_idx S79 hx1 (.n rfl) rfl rfl (.t rfl) (.t rfl) ?_
  refine s_load U3 (.n rfl) rfl rfl (.t rfl) ?_
  refine s_move (.n rfl) rfl rfl (.t rfl) ?_
  refine s_move (.n rfl) rfl rfl (.t rfl) ?_
  obtain ⟨x2, hx2, ho⟩ := bnd ho
  refine s_idx S79 hx2 (.n rfl) rfl rfl (.t rfl) (.t rfl) ?_
  refine s_load U3 (.n rfl) rfl rfl (.t rfl) ?_
  refine s_cmp (.n rfl) rfl rfl (.t rfl) (.t rfl) .lss ?_
  refine s_assign (.n rfl) rfl rfl (.t rfl) ?_
  refine s_nilq rfl ?_
  cases ho
  exact r_ret (ret_of (.inr rfl) (.v rfl .n) (by decide))
theorem g_depot_leaving_dead_ok {l_0 : (List Int)} {i_1 : Int} {j_2 : Int} {out : (Bool)} (ho : g_depot_leaving_dead l_0 i_1 j_2 = some out) : Fun ktab 63 [.val (rSlice (rInt .i64)) l_0, .val (rInt .i64) i_1, .val (rInt .i64) j_2] [.val rBool (out)] := by
  refine fun_of (F := Try.f63) (by rfl) (by rfl) (by rfl) (fun C hC => ?_)
  delta g_depot_leaving_dead at ho
  refine r_seq ?_
  refine r_region ?_
  refine s_assign (.n rfl) rfl rfl .b ?_
  refine s_nilq rfl ?_
  refine r_seq ?_
  refine r_draw [] (by kernel_rfl) ?_
  refine s_move (.n rfl) rfl rfl (.t rfl) ?_
  refine s_move (.n rfl) rfl rfl (.t rfl) ?_
  obtain ⟨x1, hx1, ho⟩ := bnd ho
  refine s_idx S79 hx1 (.n rfl) rfl rfl (.t rfl) (.t rfl) ?_
  refine s_load U3 (.n rfl) rfl rfl (.t rfl) ?_
  refine s_move (.n rfl) rfl rfl (.t rfl) ?_
  refine s_move (.n rfl) rfl rfl (.t rfl) ?_
  obtain ⟨x2, hx2, ho⟩ := bnd ho
  refine s_idx S79 hx2 (.n rfl) rfl rfl (.t rfl) (.t rfl) ?_
  refine s_load U3 (.n rfl) rfl rfl (.t rfl) ?_
  refine s_cmp (.n rfl) rfl rfl (.t rfl) (.t rfl) .lss ?_
  refine s_assign (.n rfl) rfl rfl (.t rfl) ?_
  refine s_nilq rfl ?_
  cases ho
  exact r_ret (ret_of (.inr rfl) (.v rfl .n) (by decide))
theorem g_depot_leaving_way_ok {l_0 : (List Int)} {through_1 : Bool} {out : (((Int × Int) → Option (Bool)))} (ho : g_depot_leaving_way l_0 through_1 = some out) : Fun ktab 37 [.val (rSlice (rInt .i64)) l_0, .val rBool through_1] [.val (rFn ktab (Int × Int) (Bool) (fun x => [.val (rInt .i64) (x.1), .val (rInt .i64) (x.2)]) (fun y => [.val rBool (y)])) (out)] := by
  refine fun_of (F := Try.f37) (by rfl) (by rfl) (by rfl) (fun C hC => ?_)
  delta g_depot_leaving_way at ho
  refine r_seq ?_
  refine r_region ?_
  refine s_pure rfl (.n rfl) rfl (e := .raw .nilfunc) (fun z fr h s => ⟨_, rfl, by simp only [TE.ok]; rfl⟩) ?_
  refine s_nilq rfl ?_
  refine r_seq ?_
  refine r_seq ?_
  refine r_region ?_
  refine s_move (.n rfl) rfl rfl (.t rfl) ?_
  refine s_nilq rfl ?_
  refine r_cond (.t rfl) (fun hq1 => ?_) (fun hq1 => ?_)
  · have ho := cnd1 ho hq1
    refine r_seq ?_
    refine r_region ?_
    refine s_move (.n rfl) rfl rfl (.t rfl) ?_
    refine s_mkfn (X := (Int × Int)) (Y := (Bool)) (fun x => [.val (rInt .i64) (x.1), .val (rInt .i64) (x.2)]) (fun y => [.val rBool (y)]) (f := (fun x => g_depot_leaving_through l_0 x.1 x.2)) (fun x y hf => g_depot_leaving_through_ok hf) rfl (.n rfl) rfl rfl (.c (.t rfl) .n) .n ?_
    refine s_assign (.n rfl) rfl rfl (.t rfl) ?_
    refine s_nilq rfl ?_
    cases ho
    exact r_ret (ret_of (.inr rfl) (.v rfl .n) (by decide))
  · have ho := cnd0 ho hq1
    refine r_skipq rfl ?_
    refine r_seq ?_
    refine r_region ?_
    refine s_move (.n rfl) rfl rfl (.t rfl) ?_
    refine s_mkfn (X := (Int × Int)) (Y := (Bool)) (fun x => [.val (rInt .i64) (x.1), .val (rInt .i64) (x.2)]) (fun y => [.val rBool (y)]) (f := (fun x => g_depot_leaving_dead l_0 x.1 x.2)) (fun x y hf => g_depot_leaving_dead_ok hf) rfl (.n rfl) rfl rfl (.c (.t rfl) .n) .n ?_
    refine s_assign (.n rfl) rfl rfl (.t rfl) ?_
    refine s_nilq rfl ?_
    cases ho
    exact r_ret (ret_of (.inr rfl) (.v rfl .n) (by decide))
theorem g_slices_IndexFunc_int_int_ok {s_0 : (List Int)} {f_1 : ((Int) → Option (Bool))} {out : (Int)} (ho : g_slices_IndexFunc_int_int s_0 f_1 = some out) : Fun ktab 64 [.val (rSlice (rInt .i64)) s_0, .val (rFn ktab (Int) (Bool) (fun x => [.val (rInt .i64) (x)]) (fun y => [.val rBool (y)])) f_1] [.val (rInt .i64) (out)] := by
  refine fun_of (F := Try.f64) (by rfl) (by rfl) (by rfl) (fun C hC => ?_)
  delta g_slices_IndexFunc_int_int at ho
  refine r_seq ?_
  refine r_region ?_
  refine s_assign (.n rfl) rfl rfl (.i (by decide) (by decide)) ?_
  refine s_nilq rfl ?_
  refine r_seq ?_
  refine r_seq ?_
  refine r_region ?_
  refine s_move (.n rfl) rfl rfl (.t rfl) ?_
  refine s_len S22 (.n rfl) rfl rfl rfl rfl rfl (.t rfl) ?_
  refine s_move (.n rfl) rfl rfl (.i (by decide) (by decide)) ?_
  refine s_nilq rfl ?_
  refine r_block ?_
  obtain ⟨t11, ht11, ho⟩ := bnd ho
  refine r_loop (σ := (Int)) (τ := Unit ⊕ (Int)) (G := List AVal) (fun s g => ([(0, .val (rSlice (rInt .i64)) (s_0)), (1, .val (rFn ktab (Int) (Bool) (fun x => [.val (rInt .i64) (x)]) (fun y => [.val rBool (y)])) (f_1)), (7, .val (rInt .i64) ((lenI s_0))), (8, .val (rInt .i64) (s))], [])) (altX (fun b => (.exit 0, fun g => ([], []))) (fun b => (.ret, fun g => ([(4, .val (rInt .i64) (b))], [])))) _ [] ht11 (fun fr h s => s.pick [] ⟨rfl, rfl, rfl, rfl, trivial⟩ rfl (by decide)) ?_ ?_ ?_
  · intro t
    rcases t with t | t
    · exact (show (.exit 0 : AExit) ≠ .normal from fun e => by cases e)
    · exact (show (.ret : AExit) ≠ .normal from fun e => by cases e)
  · clear ho
    intro s5 g6 r12 ho
    refine r_seq ?_
    refine r_region ?_
    refine s_cmp (.n rfl) rfl rfl (.t rfl) (.t rfl) .lss ?_
    refine s_nilq rfl ?_
    refine r_seq ?_
    refine r_cond (.t rfl) (fun hq7 => ?_) (fun hq7 => ?_)
    · have ho := cnd1 ho hq7
      refine r_skipq rfl ?_
      refine r_seq ?_
      refine r_block ?_
      refine r_seq ?_
      refine r_region ?_
      refine s_move (.n rfl) rfl rfl (.t rfl) ?_
      refine s_assign (.n rfl) rfl rfl (.t rfl) ?_
      refine s_nilq rfl ?_
      refine r_seq ?_
      refine r_region ?_
      refine s_move (.n rfl) rfl rfl (.t rfl) ?_
      refine s_move (.n rfl) rfl rfl (.t rfl) ?_
      refine s_move (.n rfl) rfl rfl (.t rfl) ?_
      obtain ⟨x8, hx8, ho⟩ := bnd ho
      refine s_idx S22 hx8 (.n rfl) rfl rfl (.t rfl) (.t rfl) ?_
      refine s_load U3 (.n rfl) rfl rfl (.t rfl) ?_
      obtain ⟨y9, hy9, ho⟩ := bnd ho
      refine s_callv hy9 (.n rfl) rfl rfl rfl (.t rfl) (.c (.t rfl) .n) ?_
      show SOps _ _ _ _ _ _ _ _
      refine s_nilq rfl ?_
      refine r_cond (.t rfl) (fun hq10 => ?_) (fun hq10 => ?_)
      · have ho := cnd1 ho hq10
        refine r_seq ?_
        refine r_region ?_
        refine s_move (.n rfl) rfl rfl (.t rfl) ?_
        refine s_assign (.n rfl) rfl rfl (.t rfl) ?_
        refine s_nilq rfl ?_
        cases ho
        exact r_ret (fun fr h s => And.intro rfl (Exists.intro [] (s.pick [] ⟨rfl, trivial⟩ rfl (by decide))))
      · have ho := cnd0 ho hq10
        refine r_skipq rfl ?_
        refine r_region ?_
        refine s_ar (.n rfl) rfl rfl (.t rfl) (.i (by decide) (by decide)) .add ?_
        refine s_move (.n rfl) rfl rfl (.t rfl) ?_
        cases ho
        exact s_nil (fun fr h s => And.intro rfl (Exists.intro [] (s.pick [] ⟨rfl, rfl, rfl, rfl, trivial⟩ rfl (by decide))))
    · have ho := cnd0 ho hq7
      cases ho
      exact r_exit (fun fr h s => And.intro rfl (Exists.intro [] (s.pick [] trivial rfl (by decide))))
  · clear ht11
    rcases t11 with b13 | b14
    · have ho := alt_l ho
      intro g15
      show ∀ fr h, St _ [] [] fr h → _
      show SRun _ _ _ _ _ _
      refine r_seq ?_
      refine r_region ?_
      refine s_assign (.n rfl) rfl rfl (.i (by decide) (by decide)) ?_
      refine s_nilq rfl ?_
      cases ho
      exact r_ret (ret_of (.inr rfl) (.v rfl .n) (by decide))
    · have ho := alt_r ho
      intro g16
      show ∀ fr h, St _ [(4, .val (rInt .i64) (b14))] [] fr h → _
      cases ho
      exact id (ret_of (.inr rfl) (.v rfl .n) (by decide))
theorem g_slices_ContainsFunc_int_int_ok {s_0 : (List Int)} {f_1 : ((Int) → Option (Bool))} {out : (Bool)} (ho : g_slices_ContainsFunc_int_int s_0 f_1 = some out) : Fun ktab 38 [.val (rSlice (rInt .i64)) s_0, .val (rFn ktab (Int) (Bool) (fun x => [.val (rInt .i64) (x)]) (fun y => [.val rBool (y)])) f_1] [.val rBool (out)] := by
  refine fun_of (F := Try.f38) (by rfl) (by rfl) (by rfl) (fun C hC => ?_)
  delta g_slices_ContainsFunc_int_int at ho
  refine r_seq ?_
  refine r_region ?_
  refine s_assign (.n rfl) rfl rfl .b ?_
  refine s_nilq rfl ?_
  refine r_seq ?_
  refine r_region ?_
  refine s_move (.n rfl) rfl rfl (.t rfl) ?_
  refine s_move (.n rfl) rfl rfl (.t rfl) ?_
  obtain ⟨y1, hy1, ho⟩ := bnd ho
  refine s_calll (g_slices_IndexFunc_int_int_ok hy1) (.v flat_int .n) rfl (.n rfl) rfl rfl rfl .f (.c (.o (.t rfl)) (.c (.o (.t rfl)) .n)) ?_
  show SOps _ _ _ _ _ _ _ _
  refine s_cmp (.n rfl) rfl rfl (.t rfl) (.i (by decide) (by decide)) .geq ?_
  refine s_assign (.n rfl) rfl rfl (.t rfl) ?_
  refine s_nilq rfl ?_
  cases ho
  exact r_ret (ret_of (.inr rfl) (.v rfl .n) (by decide))
theorem g_depot_Assign_1_ok {i_0 : Int} {p_1 : ((Int × Int) → Option (Bool))} {p_2 : Int} {out : (Bool)} (ho : g_depot_Assign_1 i_0 p_1 p_2 = some out) : Fun ktab 39 [.val (rInt .i64) i_0, .val (rPtr (rFn ktab (Int × Int) (Bool) (fun x => [.val (rInt .i64) (x.1), .val (rInt .i64) (x.2)]) (fun y => [.val rBool (y)]))) p_1, .val (rPtr (rInt .i64)) p_2] [.val rBool (out)] := by
  refine fun_of (F := Try.f39) (by rfl) (by rfl) (by rfl) (fun C hC => ?_)
  delta g_depot_Assign_1 at ho
  refine r_seq ?_
  refine r_region ?_
  refine s_assign (.n rfl) rfl rfl .b ?_
  refine s_nilq rfl ?_
  refine r_seq ?_
  refine r_region ?_
  refine s_load U78 (.n rfl) rfl rfl (.t rfl) ?_
  refine s_move (.n rfl) rfl rfl (.t rfl) ?_
  refine s_load U3 (.n rfl) rfl rfl (.t rfl) ?_
  obtain ⟨y1, hy1, ho⟩ := bnd ho
  refine s_callv hy1 (.n rfl) rfl rfl rfl (.t rfl) (.c (.t rfl) (.c (.t rfl) .n)) ?_
  show SOps _ _ _ _ _ _ _ _
  refine s_assign (.n rfl) rfl rfl (.t rfl) ?_
  refine s_nilq rfl ?_
  cases ho
  exact r_ret (ret_of (.inr rfl) (.v rfl .n) (by decide))
theorem g_depot_Assign_ok {p_0 : (List Int)} {p_1 : Bool} {out : ((List Int) × (List Int) × Int)} (ho : g_depot_Assign p_0 p_1 = some out) : Fun ktab 13 [.val (rSlice (rInt .i64)) p_0, .val rBool p_1] [.row (rInt .i64) (out.1), .row (rInt .i64) (out.2.1), .val (rInt .i64) (out.2.2)] := by
  refine fun_of (F := Try.f13) (by rfl) (by rfl) (by rfl) (fun C hC => ?_)
  delta g_depot_Assign at ho
  refine r_seq ?_
  refine r_region ?_
  refine s_st (st_nilrow (rInt .i64)) ?_
  refine s_assign (.n rfl) rfl rfl .nilr ?_
  refine s_st (st_nilrow (rInt .i64)) ?_
  refine s_assign (.n rfl) rfl rfl .nilr ?_
  refine s_assign (.n rfl) rfl rfl (.i (by decide) (by decide)) ?_
  refine s_nilq rfl ?_
  refine r_scope (by exact ret_goto) ?_
  refine r_seq ?_
  refine r_seq ?_
  obtain ⟨c5, hc5, ho⟩ := bnd ho
  refine r_cut (τ := (Bool)) (G := Unit) (fun t => (.normal, fun _ => ([(0, .val (rSlice (rInt .i64)) (p_0)), (1, .val rBool (p_1)), (26, .val rBool (t))], [(.nilslice, .row (rInt .i64) ([])), (.nilslice, .row (rInt .i64) ([]))]))) (t := c5) ?_ ?_
  · have ho := hc5
    clear hc5
    refine r_region ?_
    refine s_move (.n rfl) rfl rfl (.t rfl) ?_
    refine s_len S22 (.n rfl) rfl rfl rfl rfl rfl (.t rfl) ?_
    refine s_cmp (.n rfl) rfl rfl (.t rfl) (.i (by decide) (by decide)) .gtr ?_
    refine s_move (.n rfl) rfl rfl (.t rfl) ?_
    rcases Bool.eq_false_or_eq_true ((decide ((lenI p_0) > 200))) with hb6 | hb6
    · have ho := cnd1 ho hb6
      refine s_skip (.g rfl rfl (gf1 hb6)) rfl ?_
      refine s_skip (.g rfl rfl (gf1 hb6)) rfl ?_
      refine s_skip (.g rfl rfl (gf1 hb6)) rfl ?_
      refine s_pk1 hb6 (.n rfl) rfl rfl (.t rfl) .b ?_
      cases ho
      exact s_nil (fun fr h s => And.intro rfl (Exists.intro () (s.pick [0, 1] ⟨rfl, rfl, rfl, trivial⟩ rfl (by decide))))
    · have ho := cnd0 ho hb6
      refine s_move (.g rfl rfl (gf0 hb6)) rfl rfl (.t rfl) ?_
      obtain ⟨y7, hy7, ho⟩ := bnd ho
      refine s_calll (g_depot_permutation_ok hy7) (.v flat_bool .n) rfl (.g rfl rfl (gf0 hb6)) rfl rfl rfl .f (.c (.o (.t rfl)) .n) ?_
      show SOps _ _ _ _ _ _ _ _
      refine s_not (.g rfl rfl (gf0 hb6)) rfl rfl (.t rfl) ?_
      refine s_pk0 hb6 (.n rfl) rfl rfl (.t rfl) (.t rfl) ?_
      cases ho
      exact s_nil (fun fr h s => And.intro rfl (Exists.intro () (s.pick [0, 1] ⟨rfl, rfl, rfl, trivial⟩ rfl (by decide))))
  · intro _
    show SRun _ _ _ _ _ _
    refine r_cond (.t rfl) (fun hq8 => ?_) (fun hq8 => ?_)
    · have ho := cnd1 ho hq8
      refine r_seq ?_
      refine r_region ?_
      refine s_st (st_nilrow (rInt .i64)) ?_
      refine s_assign (.n rfl) rfl rfl .nilr ?_
      refine s_st (st_nilrow (rInt .i64)) ?_
      refine s_assign (.n rfl) rfl rfl .nilr ?_
      refine s_assign (.n rfl) rfl rfl (.i (by decide) (by decide)) ?_
      refine s_nilq rfl ?_
      cases ho
      exact r_ret (ret_of (.inr rfl) (.r 1 rfl rfl (.r 0 rfl rfl (.v rfl .n))) (by decide))
    · have ho := cnd0 ho hq8
      refine r_skipq rfl ?_
      refine r_seq ?_
      refine r_region ?_
      refine s_move (.n rfl) rfl rfl (.t rfl) ?_
      refine s_move (.n rfl) rfl rfl (.t rfl) ?_
      obtain ⟨y11, hy11, ho⟩ := bnd ho
      refine s_call (pre := []) (post := []) (vs := []) (g_depot_leaving_way_ok hy11) rfl (.n rfl) rfl rfl rfl .f (.c (.t rfl) (.c (.t rfl) .n)) ?_
      show SOps _ _ _ _ _ _ _ _
      refine s_alloc (zv := .nilfunc) (es := [.raw (.nilfunc)]) (by kernel_rfl) (fun _ => (okraw okn)) rfl (.n rfl) rfl rfl ?_
      intro b12
      refine s_storeb 0 (U78).sz rfl (by exact Nat.le_of_ble_eq_true rfl) (.n rfl) rfl rfl (.t rfl) (.t rfl) rfl rfl ?_
      refine s_st (st_freezeb (R := (rFn ktab (Int × Int) (Bool) (fun x => [.val (rInt .i64) (x.1), .val (rInt .i64) (x.2)]) (fun y => [.val rBool (y)]))) (a := y11) 0 [7] (cells_one rfl) rfl rfl ⟨rfl, trivial⟩) ?_
      refine s_nilq rfl ?_
      refine r_seq ?_
      refine r_region ?_
      refine s_st (st_pack0 (rInt .i64)) ?_
      refine s_st (st_nilrow rRaw) ?_
      refine s_assign (.n rfl) rfl rfl .nilr ?_
      refine s_nilq rfl ?_
      refine r_seq ?_
      refine r_region ?_
      refine s_st (st_nilrow (rInt .i64)) ?_
      refine s_assign (.n rfl) rfl rfl .nilr ?_
      refine s_nilq rfl ?_
      refine r_seq ?_
      refine r_labelq rfl ?_
      refine r_seq ?_
      refine r_seq ?_
      refine r_region ?_
      refine s_move (.n rfl) rfl rfl (.t rfl) ?_
      refine s_len S22 (.n rfl) rfl rfl rfl rfl rfl (.t rfl) ?_
      refine s_move (.n rfl) rfl rfl (.i (by decide) (by decide)) ?_
      refine s_nilq rfl ?_
      refine r_block ?_
      obtain ⟨t167, ht167, ho⟩ := bnd ho
      refine r_loop (σ := ((List (List Int)) × (List Int) × Int)) (τ := ((List (List Int)) × (List Int))) (G := List AVal) (fun s g => ([(0, .val (rSlice (rInt .i64)) (p_0)), (7, .val (rPtr (rFn ktab (Int × Int) (Bool) (fun x => [.val (rInt .i64) (x.1), .val (rInt .i64) (x.2)]) (fun y => [.val rBool (y)]))) (y11)), (8, .raw ((gh g 0))), (9, .raw ((gh g 2))), (31, .val (rInt .i64) ((lenI p_0))), (32, .val (rInt .i64) (s.2.2))], [((gh g 0), .row rRaw ((untup (gh g 1)))), (.undef, pack (rInt .i64) ((untup (gh g 1))) s.1), ((gh g 2), .row (rInt .i64) (s.2.1))])) (fun b => (.exit 0, fun g => ([(0, .val (rSlice (rInt .i64)) (p_0)), (7, .val (rPtr (rFn ktab (Int × Int) (Bool) (fun x => [.val (rInt .i64) (x.1), .val (rInt .i64) (x.2)]) (fun y => [.val rBool (y)]))) (y11)), (8, .raw ((gh g 0))), (9, .raw ((gh g 2)))], [((gh g 0), .row rRaw ((untup (gh g 1)))), (.undef, pack (rInt .i64) ((untup (gh g 1))) b.1), ((gh g 2), .row (rInt .i64) (b.2))]))) _ [.nilslice, .tuple ([]), .nilslice] ht167 (fun fr h s => s.pick [1, 2, 0] ⟨rfl, rfl, rfl, rfl, rfl, rfl, trivial⟩ rfl (by decide)) ?_ ?_ ?_
      · intro t
        exact (show (.exit 0 : AExit) ≠ .normal from fun e => by cases e)
      · clear ho
        intro s85 g86 r168 ho
        refine r_seq ?_
        refine r_region ?_
        refine s_cmp (.n rfl) rfl rfl (.t rfl) (.t rfl) .lss ?_
        refine s_nilq rfl ?_
        refine r_seq ?_
        refine r_cond (.t rfl) (fun hq96 => ?_) (fun hq96 => ?_)
        · have ho := cnd1 ho hq96
          refine r_skipq rfl ?_
          refine r_seq ?_
          refine r_block ?_
          refine r_seq ?_
          refine r_region ?_
          refine s_move (.n rfl) rfl rfl (.t rfl) ?_
          refine s_alloc (zv := .int .i64 0) (es := [.val (rInt .i64) (0)]) (by kernel_rfl) (fun _ => (okint okn)) rfl (.n rfl) rfl rfl ?_
          intro b97
          refine s_storeb 0 (U3).sz rfl (by exact Nat.le_of_ble_eq_true rfl) (.n rfl) rfl rfl (.t rfl) (.t rfl) rfl rfl ?_
          refine s_st (st_freezeb (R := (rInt .i64)) (a := s85.2.2) 0 [10] (cells_one rfl) rfl rfl ⟨rfl, trivial⟩) ?_
          refine s_nilq rfl ?_
          refine r_seq ?_
          refine r_seq ?_
          refine r_region ?_
          refine s_move (.n rfl) rfl rfl (.t rfl) ?_
          refine s_lenr (R := (rInt .i64)) 0 1 SR81 (.n rfl) rfl rfl rfl rfl rfl (.t rfl) rfl rfl ?_
          refine s_move (.n rfl) rfl rfl (.i (by decide) (by decide)) ?_
          refine s_nilq rfl ?_
          refine r_block ?_
          obtain ⟨t144, ht144, ho⟩ := bnd ho
          refine r_loop (σ := ((List Int) × Int × (List (List Int)))) (τ := ((List Int) × (List (List Int))) ⊕ ((List Int) × (List (List Int)))) (G := List AVal) (fun s g => ([(0, .val (rSlice (rInt .i64)) (p_0)), (7, .val (rPtr (rFn ktab (Int × Int) (Bool) (fun x => [.val (rInt .i64) (x.1), .val (rInt .i64) (x.2)]) (fun y => [.val rBool (y)]))) (y11)), (8, .raw ((gh g 1))), (9, .raw ((gh g 0))), (10, .val (rPtr (rInt .i64)) (s85.2.2)), (31, .val (rInt .i64) ((lenI p_0))), (32, .val (rInt .i64) (s85.2.2)), (35, .raw ((gh g 1))), (36, .val (rInt .i64) ((lenI s85.1))), (37, .val (rInt .i64) (s.2.1))], [((gh g 1), .row rRaw ((untup (gh g 2)))), (.undef, pack (rInt .i64) ((untup (gh g 2))) s.2.2), ((gh g 0), .row (rInt .i64) (s.1))])) (altX (fun b => (.exit 1, fun g => ([(0, .val (rSlice (rInt .i64)) (p_0)), (7, .val (rPtr (rFn ktab (Int × Int) (Bool) (fun x => [.val (rInt .i64) (x.1), .val (rInt .i64) (x.2)]) (fun y => [.val rBool (y)]))) (y11)), (8, .raw ((gh g 1))), (9, .raw ((gh g 0))), (31, .val (rInt .i64) ((lenI p_0))), (32, .val (rInt .i64) (s85.2.2))], [((gh g 1), .row rRaw ((untup (gh g 2)))), (.undef, pack (rInt .i64) ((untup (gh g 2))) b.2), ((gh g 0), .row (rInt .i64) (b.1))]))) (fun b => (.exit 2, fun g => ([(0, .val (rSlice (rInt .i64)) (p_0)), (7, .val (rPtr (rFn ktab (Int × Int) (Bool) (fun x => [.val (rInt .i64) (x.1), .val (rInt .i64) (x.2)]) (fun y => [.val rBool (y)]))) (y11)), (8, .raw ((gh g 1))), (9, .raw ((gh g 0))), (10, .val (rPtr (rInt .i64)) (s85.2.2)), (31, .val (rInt .i64) ((lenI p_0))), (32, .val (rInt .i64) (s85.2.2))], [((gh g 1), .row rRaw ((untup (gh g 2)))), (.undef, pack (rInt .i64) ((untup (gh g 2))) b.2), ((gh g 0), .row (rInt .i64) (b.1))])))) _ [(gh g86 2), (gh g86 0), .tuple ((untup (gh g86 1)))] ht144 (fun fr h s => s.pick [0, 1, 2] ⟨rfl, rfl, rfl, rfl, rfl, rfl, rfl, rfl, rfl, rfl, trivial⟩ rfl (by decide)) ?_ ?_ ?_
          · intro t
            rcases t with t | t
            · exact (show (.exit 1 : AExit) ≠ .normal from fun e => by cases e)
            · exact (show (.exit 2 : AExit) ≠ .normal from fun e => by cases e)
          · clear ho
            intro s124 g125 r145 ho
            refine r_seq ?_
            refine r_region ?_
            refine s_cmp (.n rfl) rfl rfl (.t rfl) (.t rfl) .lss ?_
            refine s_nilq rfl ?_
            refine r_seq ?_
            refine r_cond (.t rfl) (fun hq130 => ?_) (fun hq130 => ?_)
            · have ho := cnd1 ho hq130
              refine r_skipq rfl ?_
              refine r_seq ?_
              refine r_block ?_
              refine r_seq ?_
              refine r_region ?_
              refine s_move (.n rfl) rfl rfl (.t rfl) ?_
              obtain ⟨x131, hx131, ho⟩ := bnd ho
              refine s_idxr (R := (rInt .i64)) 0 1 SR81 hx131 (.n rfl) rfl rfl (.t rfl) rfl rfl (.t rfl) ?_
              intro w132 hw132
              refine s_loado 0 (fun _ h => by cases h <;> rfl) UR22 FOk.self hw132 (.n rfl) rfl rfl (.t rfl) rfl ?_
              refine s_st (st_unraw (n := 41) rfl) ?_
              refine s_assign (.n rfl) rfl rfl (.t rfl) ?_
              refine s_assign (.n rfl) rfl rfl (.t rfl) ?_
              refine s_nilq rfl ?_
              refine r_seq ?_
              refine r_region ?_
              refine s_move (.n rfl) rfl rfl (.t rfl) ?_
              refine s_mkfn (X := (Int)) (Y := (Bool)) (fun x => [.val (rInt .i64) (x)]) (fun y => [.val rBool (y)]) (f := (fun x => g_depot_Assign_1 x y11 s85.2.2)) (fun x y hf => g_depot_Assign_1_ok hf) rfl (.n rfl) rfl rfl .n (.c (.t rfl) (.c (.t rfl) .n)) ?_
              refine s_st (st_take (i := Int.toNat s124.2.1) 1 rfl rfl hw132 (idx_inv hx131).2.2.2) ?_
              obtain ⟨y134, hy134, ho⟩ := bnd ho
              refine s_calll (g_slices_ContainsFunc_int_int_ok hy134) (.v flat_bool .n) rfl (.n rfl) rfl rfl rfl .f (.c (.r 0 (.t rfl) rfl) (.c (.o (.t rfl)) .n)) ?_
              show SOps _ _ _ _ _ _ _ _
              refine s_st (st_back (i := Int.toNat s124.2.1) (hs := (untup (gh g125 2))) (xss := s124.2.2) 0 0 rfl rfl rfl rfl hw132 (idx_inv hx131).2.2.2) ?_
              refine s_not (.n rfl) rfl rfl (.t rfl) ?_
              refine s_nilq rfl ?_
              refine r_cond (.t rfl) (fun hq135 => ?_) (fun hq135 => ?_)
              · have ho := cnd1 ho hq135
                refine r_seq ?_
                refine r_region ?_
                refine s_move (.n rfl) rfl rfl (.t rfl) ?_
                refine s_move (.n rfl) rfl rfl (.t rfl) ?_
                refine s_move (.n rfl) rfl rfl (.t rfl) ?_
                refine s_load U3 (.n rfl) rfl rfl (.t rfl) ?_
                refine s_bs (R := (rInt .i64)) S22 Y3 (.n rfl) rfl rfl (.c (.t rfl) .n) rfl (by decide) ?_
                refine s_st (st_take (i := Int.toNat s124.2.1) 0 rfl rfl hw132 (idx_inv hx131).2.2.2) ?_
                obtain ⟨x137, hx137, ho⟩ := bnd ho
                refine s_app 0 S22 Y3 hx137 (.n rfl) rfl rfl rfl rfl rfl (.t rfl) rfl (.t rfl) rfl ?_
                intro v138
                refine s_idxo 2 SR81 (idx_of hx131 hw132) (.n rfl) rfl rfl (.t rfl) rfl (.t rfl) ?_
                refine s_st (st_toraw (n := 51) 0 rfl rfl) ?_
                refine s_storeo 2 UR22 FOk.self hw132 (.n rfl) rfl rfl (.t rfl) (.t rfl) rfl rfl ?_
                refine s_st (st_put (i := Int.toNat s124.2.1) (hs := (untup (gh g125 2))) (xss := s124.2.2) 0 0 rfl rfl rfl rfl hw132 (idx_inv hx131).2.2.2) ?_
                refine s_nilq rfl ?_
                refine r_seq ?_
                refine r_region ?_
                refine s_move (.n rfl) rfl rfl (.t rfl) ?_
                refine s_move (.n rfl) rfl rfl (.t rfl) ?_
                refine s_bs (R := (rInt .i64)) S22 Y3 (.n rfl) rfl rfl (.c (.t rfl) .n) rfl (by decide) ?_
                obtain ⟨x139, hx139, ho⟩ := bnd ho
                refine s_app 2 S22 Y3 hx139 (.n rfl) rfl rfl rfl rfl rfl (.t rfl) rfl (.t rfl) rfl ?_
                intro v140
                refine s_assign (.n rfl) rfl rfl (.t rfl) ?_
                refine s_nilq rfl ?_
                cases ho
                exact r_exit (fun fr h s => And.intro rfl (Exists.intro [v140, (gh g125 1), .tuple (((untup (gh g125 2))).set (Int.toNat s124.2.1) v138)] (s.pick [2, 1, 0] ⟨rfl, rfl, rfl, rfl, rfl, rfl, trivial⟩ rfl (by decide))))
              · have ho := cnd0 ho hq135
                refine r_skipq rfl ?_
                refine r_region ?_
                refine s_ar (.n rfl) rfl rfl (.t rfl) (.i (by decide) (by decide)) .add ?_
                refine s_move (.n rfl) rfl rfl (.t rfl) ?_
                cases ho
                exact s_nil (fun fr h s => And.intro rfl (Exists.intro [(gh g125 0), (gh g125 1), .tuple ((untup (gh g125 2)))] (s.pick [1, 0, 2] ⟨rfl, rfl, rfl, rfl, rfl, rfl, rfl, rfl, rfl, rfl, trivial⟩ rfl (by decide))))
            · have ho := cnd0 ho hq130
              cases ho
              exact r_exit (fun fr h s => And.intro rfl (Exists.intro [(gh g125 0), (gh g125 1), .tuple ((untup (gh g125 2)))] (s.pick [0, 1, 2] ⟨rfl, rfl, rfl, rfl, rfl, rfl, rfl, trivial⟩ rfl (by decide))))
          · clear ht144
            rcases t144 with b146 | b147
            · have ho := alt_l ho
              intro g148
              show ∀ fr h, St _ [(0, .val (rSlice (rInt .i64)) (p_0)), (7, .val (rPtr (rFn ktab (Int × Int) (Bool) (fun x => [.val (rInt .i64) (x.1), .val (rInt .i64) (x.2)]) (fun y => [.val rBool (y)]))) (y11)), (8, .raw ((gh g148 1))), (9, .raw ((gh g148 0))), (31, .val (rInt .i64) ((lenI p_0))), (32, .val (rInt .i64) (s85.2.2))] [((gh g148 1), .row rRaw ((untup (gh g148 2)))), (.undef, pack (rInt .i64) ((untup (gh g148 2))) b146.2), ((gh g148 0), .row (rInt .i64) (b146.1))] fr h → _
              show SRun _ _ _ _ _ _
              refine r_region ?_
              refine s_ar (.n rfl) rfl rfl (.t rfl) (.i (by decide) (by decide)) .add ?_
              refine s_move (.n rfl) rfl rfl (.t rfl) ?_
              cases ho
              exact s_nil (fun fr h s => And.intro rfl (Exists.intro [(gh g148 1), .tuple ((untup (gh g148 2))), (gh g148 0)] (s.pick [0, 1, 2] ⟨rfl, rfl, rfl, rfl, rfl, rfl, trivial⟩ rfl (by decide))))
            · have ho := alt_r ho
              intro g153
              show ∀ fr h, St _ [(0, .val (rSlice (rInt .i64)) (p_0)), (7, .val (rPtr (rFn ktab (Int × Int) (Bool) (fun x => [.val (rInt .i64) (x.1), .val (rInt .i64) (x.2)]) (fun y => [.val rBool (y)]))) (y11)), (8, .raw ((gh g153 1))), (9, .raw ((gh g153 0))), (10, .val (rPtr (rInt .i64)) (s85.2.2)), (31, .val (rInt .i64) ((lenI p_0))), (32, .val (rInt .i64) (s85.2.2))] [((gh g153 1), .row rRaw ((untup (gh g153 2)))), (.undef, pack (rInt .i64) ((untup (gh g153 2))) b147.2), ((gh g153 0), .row (rInt .i64) (b147.1))] fr h → _
              show SRun _ _ _ _ _ _
              refine r_seq ?_
              refine r_region ?_
              refine s_move (.n rfl) rfl rfl (.t rfl) ?_
              refine s_move (.n rfl) rfl rfl (.t rfl) ?_
              refine s_lenr (R := (rInt .i64)) 0 1 SR81 (.n rfl) rfl rfl rfl rfl rfl (.t rfl) rfl rfl ?_
              refine s_bs (R := (rInt .i64)) S22 Y3 (.n rfl) rfl rfl (.c (.t rfl) .n) rfl (by decide) ?_
              obtain ⟨x155, hx155, ho⟩ := bnd ho
              refine s_app 2 S22 Y3 hx155 (.n rfl) rfl rfl rfl rfl rfl (.t rfl) rfl (.t rfl) rfl ?_
              intro v156
              refine s_assign (.n rfl) rfl rfl (.t rfl) ?_
              refine s_nilq rfl ?_
              refine r_region ?_
              refine s_move (.n rfl) rfl rfl (.t rfl) ?_
              refine s_load U3 (.n rfl) rfl rfl (.t rfl) ?_
              refine s_bso (R := (rInt .i64)) S22 Y3 (.n rfl) rfl rfl (.c (.t rfl) .n) rfl (by decide) ?_
              intro v157
              refine s_st (st_toraw (n := 65) 0 rfl rfl) ?_
              refine s_bs (R := rRaw) SR81 YR22 (.n rfl) rfl rfl (.c (.t rfl) .n) rfl (by decide) ?_
              obtain ⟨x159, hx159, ho⟩ := bnd ho
              refine s_appr (R := (rInt .i64)) 2 1 0 SR81 YR22 hx159 (.n rfl) rfl rfl rfl rfl rfl (.t rfl) rfl (.t rfl) rfl rfl rfl rfl rfl ?_
              intro v160
              refine s_assign (.n rfl) rfl rfl (.t rfl) ?_
              refine s_nilq rfl ?_
              refine r_region ?_
              refine s_ar (.n rfl) rfl rfl (.t rfl) (.i (by decide) (by decide)) .add ?_
              refine s_move (.n rfl) rfl rfl (.t rfl) ?_
              cases ho
              exact s_nil (fun fr h s => And.intro rfl (Exists.intro [v160, .tuple ((untup (gh g153 2)) ++ [v157]), v156] (s.pick [0, 1, 2] ⟨rfl, rfl, rfl, rfl, rfl, rfl, trivial⟩ rfl (by decide))))
        · have ho := cnd0 ho hq96
          cases ho
          exact r_exit (fun fr h s => And.intro rfl (Exists.intro [(gh g86 0), .tuple ((untup (gh g86 1))), (gh g86 2)] (s.pick [0, 1, 2] ⟨rfl, rfl, rfl, rfl, trivial⟩ rfl (by decide))))
      · intro g169
        show ∀ fr h, St _ [(0, .val (rSlice (rInt .i64)) (p_0)), (7, .val (rPtr (rFn ktab (Int × Int) (Bool) (fun x => [.val (rInt .i64) (x.1), .val (rInt .i64) (x.2)]) (fun y => [.val rBool (y)]))) (y11)), (8, .raw ((gh g169 0))), (9, .raw ((gh g169 2)))] [((gh g169 0), .row rRaw ((untup (gh g169 1)))), (.undef, pack (rInt .i64) ((untup (gh g169 1))) t167.1), ((gh g169 2), .row (rInt .i64) (t167.2))] fr h → _
        show SRun _ _ _ _ _ _
        refine r_seq ?_
        refine r_region ?_
        refine s_move (.n rfl) rfl rfl (.t rfl) ?_
        refine s_len S22 (.n rfl) rfl rfl rfl rfl rfl (.t rfl) ?_
        obtain ⟨x173, hx173, ho⟩ := bnd ho
        refine s_mk S22 Y3 Z3 hx173 (.n rfl) rfl rfl (.t rfl) (.t rfl) ?_
        intro v174
        refine s_assign (.n rfl) rfl rfl (.t rfl) ?_
        refine s_nilq rfl ?_
        refine r_seq ?_
        refine r_seq ?_
        refine r_region ?_
        refine s_move (.n rfl) rfl rfl (.t rfl) ?_
        refine s_len S22 (.n rfl) rfl rfl rfl rfl rfl (.t rfl) ?_
        refine s_ar (.n rfl) rfl rfl (.t rfl) (.i (by decide) (by decide)) .sub ?_
        refine s_assign (.n rfl) rfl rfl (.t rfl) ?_
        refine s_nilq rfl ?_
        refine r_block ?_
        obtain ⟨t256, ht256, ho⟩ := bnd ho
        refine r_loop (σ := (Int × (List Int))) (τ := ((List Int))) (G := List AVal) (fun s g => ([(0, .val (rSlice (rInt .i64)) (p_0)), (7, .val (rPtr (rFn ktab (Int × Int) (Bool) (fun x => [.val (rInt .i64) (x.1), .val (rInt .i64) (x.2)]) (fun y => [.val rBool (y)]))) (y11)), (8, .raw ((gh g169 0))), (9, .raw ((gh g169 2))), (13, .raw v174), (14, .val (rInt .i64) (s.1))], [(v174, .row (rInt .i64) (s.2)), ((gh g169 0), .row rRaw ((untup (gh g169 1)))), (.undef, pack (rInt .i64) ((untup (gh g169 1))) t167.1), ((gh g169 2), .row (rInt .i64) (t167.2))])) (fun b => (.exit 4, fun g => ([(0, .val (rSlice (rInt .i64)) (p_0)), (7, .val (rPtr (rFn ktab (Int × Int) (Bool) (fun x => [.val (rInt .i64) (x.1), .val (rInt .i64) (x.2)]) (fun y => [.val rBool (y)]))) (y11)), (8, .raw ((gh g169 0))), (9, .raw ((gh g169 2))), (13, .raw v174)], [(v174, .row (rInt .i64) (b)), ((gh g169 0), .row rRaw ((untup (gh g169 1)))), (.undef, pack (rInt .i64) ((untup (gh g169 1))) t167.1), ((gh g169 2), .row (rInt .i64) (t167.2))]))) _ [] ht256 (fun fr h s => s.pick [0, 1, 2, 3] ⟨rfl, rfl, rfl, rfl, rfl, rfl, trivial⟩ rfl (by decide)) ?_ ?_ ?_
        · intro t
          exact (show (.exit 4 : AExit) ≠ .normal from fun e => by cases e)
        · clear ho
          intro s228 g229 r257 ho
          refine r_seq ?_
          refine r_seq ?_
          refine r_region ?_
          refine s_move (.n rfl) rfl rfl (.t rfl) ?_
          refine s_cmp (.n rfl) rfl rfl (.t rfl) (.i (by decide) (by decide)) .geq ?_
          refine s_nilq rfl ?_
          refine r_cond (.t rfl) (fun hq230 => ?_) (fun hq230 => ?_)
          · have ho := cnd1 ho hq230
            refine r_skipq rfl ?_
            refine r_seq ?_
            refine r_block ?_
            refine r_seq ?_
            refine r_seq ?_
            refine r_region ?_
            refine s_move (.n rfl) rfl rfl (.t rfl) ?_
            refine s_ar (.n rfl) rfl rfl (.t rfl) (.i (by decide) (by decide)) .add ?_
            refine s_assign (.n rfl) rfl rfl (.t rfl) ?_
            refine s_nilq rfl ?_
            refine r_block ?_
            obtain ⟨t251, ht251, ho⟩ := bnd ho
            refine r_loop (σ := (Int × (List Int))) (τ := ((List Int))) (G := List AVal) (fun s g => ([(0, .val (rSlice (rInt .i64)) (p_0)), (7, .val (rPtr (rFn ktab (Int × Int) (Bool) (fun x => [.val (rInt .i64) (x.1), .val (rInt .i64) (x.2)]) (fun y => [.val rBool (y)]))) (y11)), (8, .raw ((gh g169 0))), (9, .raw ((gh g169 2))), (13, .raw v174), (14, .val (rInt .i64) (s228.1)), (15, .val (rInt .i64) (s.1))], [(v174, .row (rInt .i64) (s.2)), ((gh g169 0), .row rRaw ((untup (gh g169 1)))), (.undef, pack (rInt .i64) ((untup (gh g169 1))) t167.1), ((gh g169 2), .row (rInt .i64) (t167.2))])) (fun b => (.exit 6, fun g => ([(0, .val (rSlice (rInt .i64)) (p_0)), (7, .val (rPtr (rFn ktab (Int × Int) (Bool) (fun x => [.val (rInt .i64) (x.1), .val (rInt .i64) (x.2)]) (fun y => [.val rBool (y)]))) (y11)), (8, .raw ((gh g169 0))), (9, .raw ((gh g169 2))), (13, .raw v174), (14, .val (rInt .i64) (s228.1))], [(v174, .row (rInt .i64) (b)), ((gh g169 0), .row rRaw ((untup (gh g169 1)))), (.undef, pack (rInt .i64) ((untup (gh g169 1))) t167.1), ((gh g169 2), .row (rInt .i64) (t167.2))]))) _ [] ht251 (fun fr h s => s.pick [0, 1, 2, 3] ⟨rfl, rfl, rfl, rfl, rfl, rfl, rfl, trivial⟩ rfl (by decide)) ?_ ?_ ?_
            · intro t
              exact (show (.exit 6 : AExit) ≠ .normal from fun e => by cases e)
            · clear ho
              intro s243 g244 r252 ho
              refine r_seq ?_
              refine r_seq ?_
              refine r_region ?_
              refine s_move (.n rfl) rfl rfl (.t rfl) ?_
              refine s_move (.n rfl) rfl rfl (.t rfl) ?_
              refine s_len S22 (.n rfl) rfl rfl rfl rfl rfl (.t rfl) ?_
              refine s_cmp (.n rfl) rfl rfl (.t rfl) (.t rfl) .lss ?_
              refine s_nilq rfl ?_
              refine r_cond (.t rfl) (fun hq245 => ?_) (fun hq245 => ?_)
              · have ho := cnd1 ho hq245
                refine r_skipq rfl ?_
                refine r_seq ?_
                refine r_block ?_
                refine r_seq ?_
                refine r_region ?_
                refine s_load U78 (.n rfl) rfl rfl (.t rfl) ?_
                refine s_move (.n rfl) rfl rfl (.t rfl) ?_
                refine s_move (.n rfl) rfl rfl (.t rfl) ?_
                obtain ⟨y246, hy246, ho⟩ := bnd ho
                refine s_callv hy246 (.n rfl) rfl rfl rfl (.t rfl) (.c (.t rfl) (.c (.t rfl) .n)) ?_
                show SOps _ _ _ _ _ _ _ _
                refine s_nilq rfl ?_
                refine r_cond (.t rfl) (fun hq247 => ?_) (fun hq247 => ?_)
                · have ho := cnd1 ho hq247
                  refine r_draw [5, 9] (by kernel_rfl) ?_
                  refine s_move (.n rfl) rfl rfl (.t rfl) ?_
                  refine s_move (.n rfl) rfl rfl (.t rfl) ?_
                  refine s_move (.n rfl) rfl rfl (.t rfl) ?_
                  refine s_move (.n rfl) rfl rfl (.t rfl) ?_
                  obtain ⟨x248, hx248, ho⟩ := bnd ho
                  refine s_idxo 0 S22 hx248 (.n rfl) rfl rfl (.t rfl) rfl (.t rfl) ?_
                  refine s_loado 0 (fun _ h => by cases h <;> rfl) U3 FOk.self (idx_inv hx248).2.2.2 (.n rfl) rfl rfl (.t rfl) rfl ?_
                  refine s_move (.n rfl) rfl rfl (.t rfl) ?_
                  refine s_move (.n rfl) rfl rfl (.t rfl) ?_
                  obtain ⟨x249, hx249, ho⟩ := bnd ho
                  refine s_idxo 0 S22 hx249 (.n rfl) rfl rfl (.t rfl) rfl (.t rfl) ?_
                  refine s_loado 0 (fun _ h => by cases h <;> rfl) U3 FOk.self (idx_inv hx249).2.2.2 (.n rfl) rfl rfl (.t rfl) rfl ?_
                  refine s_max (.n rfl) rfl rfl rfl rfl (.t rfl) (.t rfl) ?_
                  obtain ⟨x250, hx250, ho⟩ := bnd ho
                  refine s_idxo 0 S22 hx250 (.n rfl) rfl rfl (.t rfl) rfl (.t rfl) ?_
                  refine s_storeo 0 U3 FOk.self (idx_inv hx250).2.2.2 (.n rfl) rfl rfl (.t rfl) (.t rfl) rfl rfl ?_
                  refine s_nilq rfl ?_
                  refine r_region ?_
                  refine s_move (.n rfl) rfl rfl (.t rfl) ?_
                  refine s_ar (.n rfl) rfl rfl (.t rfl) (.i (by decide) (by decide)) .add ?_
                  refine s_assign (.n rfl) rfl rfl (.t rfl) ?_
                  cases ho
                  exact s_nil (fun fr h s => And.intro rfl (Exists.intro [] (s.pick [0, 1, 2, 3] ⟨rfl, rfl, rfl, rfl, rfl, rfl, rfl, trivial⟩ rfl (by decide))))
                · have ho := cnd0 ho hq247
                  refine r_skipq rfl ?_
                  refine r_region ?_
                  refine s_move (.n rfl) rfl rfl (.t rfl) ?_
                  refine s_ar (.n rfl) rfl rfl (.t rfl) (.i (by decide) (by decide)) .add ?_
                  refine s_assign (.n rfl) rfl rfl (.t rfl) ?_
                  cases ho
                  exact s_nil (fun fr h s => And.intro rfl (Exists.intro [] (s.pick [0, 1, 2, 3] ⟨rfl, rfl, rfl, rfl, rfl, rfl, rfl, trivial⟩ rfl (by decide))))
              · have ho := cnd0 ho hq245
                cases ho
                exact r_exit (fun fr h s => And.intro rfl (Exists.intro [] (s.pick [0, 1, 2, 3] ⟨rfl, rfl, rfl, rfl, rfl, rfl, trivial⟩ rfl (by decide))))
            · intro g253
              show ∀ fr h, St _ [(0, .val (rSlice (rInt .i64)) (p_0)), (7, .val (rPtr (rFn ktab (Int × Int) (Bool) (fun x => [.val (rInt .i64) (x.1), .val (rInt .i64) (x.2)]) (fun y => [.val rBool (y)]))) (y11)), (8, .raw ((gh g169 0))), (9, .raw ((gh g169 2))), (13, .raw v174), (14, .val (rInt .i64) (s228.1))] [(v174, .row (rInt .i64) (t251)), ((gh g169 0), .row rRaw ((untup (gh g169 1)))), (.undef, pack (rInt .i64) ((untup (gh g169 1))) t167.1), ((gh g169 2), .row (rInt .i64) (t167.2))] fr h → _
              show SRun _ _ _ _ _ _
              refine r_region ?_
              refine s_move (.n rfl) rfl rfl (.t rfl) ?_
              refine s_move (.n rfl) rfl rfl (.t rfl) ?_
              obtain ⟨x254, hx254, ho⟩ := bnd ho
              refine s_idxo 0 S22 hx254 (.n rfl) rfl rfl (.t rfl) rfl (.t rfl) ?_
              refine s_loado 0 (fun _ h => by cases h <;> rfl) U3 FOk.self (idx_inv hx254).2.2.2 (.n rfl) rfl rfl (.t rfl) rfl ?_
              refine s_ar (.n rfl) rfl rfl (.t rfl) (.i (by decide) (by decide)) .add ?_
              obtain ⟨x255, hx255, ho⟩ := bnd ho
              refine s_idxo 0 S22 hx255 (.n rfl) rfl rfl (.t rfl) rfl (.t rfl) ?_
              refine s_storeo 0 U3 FOk.self (idx_inv hx255).2.2.2 (.n rfl) rfl rfl (.t rfl) (.t rfl) rfl rfl ?_
              refine s_nilq rfl ?_
              refine r_region ?_
              refine s_move (.n rfl) rfl rfl (.t rfl) ?_
              refine s_ar (.n rfl) rfl rfl (.t rfl) (.i (by decide) (by decide)) .sub ?_
              refine s_assign (.n rfl) rfl rfl (.t rfl) ?_
              cases ho
              exact s_nil (fun fr h s => And.intro rfl (Exists.intro [] (s.pick [0, 1, 2, 3] ⟨rfl, rfl, rfl, rfl, rfl, rfl, trivial⟩ rfl (by decide))))
          · have ho := cnd0 ho hq230
            cases ho
            exact r_exit (fun fr h s => And.intro rfl (Exists.intro [] (s.pick [0, 1, 2, 3] ⟨rfl, rfl, rfl, rfl, rfl, trivial⟩ rfl (by decide))))
        · intro g258
          show ∀ fr h, St _ [(0, .val (rSlice (rInt .i64)) (p_0)), (7, .val (rPtr (rFn ktab (Int × Int) (Bool) (fun x => [.val (rInt .i64) (x.1), .val (rInt .i64) (x.2)]) (fun y => [.val rBool (y)]))) (y11)), (8, .raw ((gh g169 0))), (9, .raw ((gh g169 2))), (13, .raw v174)] [(v174, .row (rInt .i64) (t256)), ((gh g169 0), .row rRaw ((untup (gh g169 1)))), (.undef, pack (rInt .i64) ((untup (gh g169 1))) t167.1), ((gh g169 2), .row (rInt .i64) (t167.2))] fr h → _
          show SRun _ _ _ _ _ _
          refine r_seq ?_
          refine r_region ?_
          refine s_st (st_nilrow (rInt .i64)) ?_
          refine s_assign (.n rfl) rfl rfl .nilr ?_
          refine s_nilq rfl ?_
          refine r_seq ?_
          refine r_region ?_
          refine s_move (.n rfl) rfl rfl (.t rfl) ?_
          refine s_lenr (R := (rInt .i64)) 2 3 SR81 (.n rfl) rfl rfl rfl rfl rfl (.t rfl) rfl rfl ?_
          refine s_assign (.n rfl) rfl rfl (.t rfl) ?_
          refine s_nilq rfl ?_
          refine r_seq ?_
          refine r_seq ?_
          refine r_region ?_
          refine s_move (.n rfl) rfl rfl (.t rfl) ?_
          refine s_len S22 (.n rfl) rfl rfl rfl rfl rfl (.t rfl) ?_
          refine s_move (.n rfl) rfl rfl (.i (by decide) (by decide)) ?_
          refine s_nilq rfl ?_
          refine r_block ?_
          obtain ⟨t308, ht308, ho⟩ := bnd ho
          refine r_loop (σ := ((List Int) × Int × Int)) (τ := ((List Int))) (G := List AVal) (fun s g => ([(7, .val (rPtr (rFn ktab (Int × Int) (Bool) (fun x => [.val (rInt .i64) (x.1), .val (rInt .i64) (x.2)]) (fun y => [.val rBool (y)]))) (y11)), (9, .raw ((gh g169 2))), (13, .raw v174), (16, .raw ((gh g 0))), (17, .val (rInt .i64) (s.2.1)), (112, .val (rInt .i64) ((lenI p_0))), (113, .val (rInt .i64) (s.2.2))], [(v174, .row (rInt .i64) (t256)), ((gh g169 2), .row (rInt .i64) (t167.2)), ((gh g 0), .row (rInt .i64) (s.1))])) (fun b => (.exit 8, fun g => ([(9, .raw ((gh g169 2))), (16, .raw ((gh g 0)))], [((gh g169 2), .row (rInt .i64) (t167.2)), ((gh g 0), .row (rInt .i64) (b))]))) _ [.nilslice] ht308 (fun fr h s => s.pick [1, 4, 0] ⟨rfl, rfl, rfl, rfl, rfl, rfl, rfl, trivial⟩ rfl (by decide)) ?_ ?_ ?_
          · intro t
            exact (show (.exit 8 : AExit) ≠ .normal from fun e => by cases e)
          · clear ho
            intro s280 g281 r309 ho
            refine r_seq ?_
            refine r_region ?_
            refine s_cmp (.n rfl) rfl rfl (.t rfl) (.t rfl) .lss ?_
            refine s_nilq rfl ?_
            refine r_seq ?_
            refine r_cond (.t rfl) (fun hq285 => ?_) (fun hq285 => ?_)
            · have ho := cnd1 ho hq285
              refine r_skipq rfl ?_
              refine r_seq ?_
              refine r_block ?_
              refine r_seq ?_
              refine r_region ?_
              refine s_move (.n rfl) rfl rfl (.t rfl) ?_
              refine s_assign (.n rfl) rfl rfl (.t rfl) ?_
              refine s_nilq rfl ?_
              refine r_seq ?_
              refine r_draw [3, 17] (by kernel_rfl) ?_
              refine s_move (.n rfl) rfl rfl (.t rfl) ?_
              refine s_move (.n rfl) rfl rfl (.t rfl) ?_
              obtain ⟨x291, hx291, ho⟩ := bnd ho
              refine s_idxo 0 S22 hx291 (.n rfl) rfl rfl (.t rfl) rfl (.t rfl) ?_
              refine s_loado 0 (fun _ h => by cases h <;> rfl) U3 FOk.self (idx_inv hx291).2.2.2 (.n rfl) rfl rfl (.t rfl) rfl ?_
              refine s_move (.n rfl) rfl rfl (.t rfl) ?_
              refine s_cmp (.n rfl) rfl rfl (.t rfl) (.t rfl) .eql ?_
              refine s_move (.n rfl) rfl rfl (.t rfl) ?_
              rcases Bool.eq_false_or_eq_true ((x291 == s280.2.1)) with hb292 | hb292
              · have ho := cnd1 ho hb292
                refine s_move (.g rfl rfl (gt1 hb292)) rfl rfl (.t rfl) ?_
                refine s_leno 2 S22 (.g rfl rfl (gt1 hb292)) rfl rfl rfl rfl rfl (.t rfl) rfl ?_
                refine s_cmp (.g rfl rfl (gt1 hb292)) rfl rfl (.t rfl) (.i (by decide) (by decide)) .eql ?_
                refine s_move (.g rfl rfl (gt1 hb292)) rfl rfl (.t rfl) ?_
                rcases Bool.eq_false_or_eq_true (((lenI s280.1) == 0)) with hb293 | hb293
                · have ho := cnd1 ho hb293
                  refine s_skip (.g rfl rfl (gf1 hb293)) rfl ?_
                  refine s_skip (.g rfl rfl (gf1 hb293)) rfl ?_
                  refine s_skip (.g rfl rfl (gf1 hb293)) rfl ?_
                  refine s_skip (.g rfl rfl (gf1 hb293)) rfl ?_
                  refine s_skip (.g rfl rfl (gf1 hb293)) rfl ?_
                  refine s_skip (.g rfl rfl (gf1 hb293)) rfl ?_
                  refine s_skip (.g rfl rfl (gf1 hb293)) rfl ?_
                  refine s_skip (.g rfl rfl (gf1 hb293)) rfl ?_
                  refine s_skip (.g rfl rfl (gf1 hb293)) rfl ?_
                  refine s_pk1 hb293 (.g rfl rfl (gt1 hb292)) rfl rfl (.t rfl) .b ?_
                  refine s_pk1 hb292 (.n rfl) rfl rfl (.t rfl) (.t rfl) ?_
                  refine s_nilq rfl ?_
                  refine r_cond (.t rfl) (fun _ => ?_) (fun hq => by cases hq)
                  refine r_seq ?_
                  refine r_region ?_
                  refine s_move (.n rfl) rfl rfl (.t rfl) ?_
                  refine s_move (.n rfl) rfl rfl (.t rfl) ?_
                  refine s_bs (R := (rInt .i64)) S22 Y3 (.n rfl) rfl rfl (.c (.t rfl) .n) rfl (by decide) ?_
                  obtain ⟨x295, hx295, ho⟩ := bnd ho
                  refine s_app 2 S22 Y3 hx295 (.n rfl) rfl rfl rfl rfl rfl (.t rfl) rfl (.t rfl) rfl ?_
                  intro v296
                  refine s_assign (.n rfl) rfl rfl (.t rfl) ?_
                  refine s_nilq rfl ?_
                  refine r_region ?_
                  refine s_move (.n rfl) rfl rfl (.t rfl) ?_
                  refine s_ar (.n rfl) rfl rfl (.t rfl) (.i (by decide) (by decide)) .sub ?_
                  refine s_assign (.n rfl) rfl rfl (.t rfl) ?_
                  refine s_nilq rfl ?_
                  refine r_region ?_
                  refine s_ar (.n rfl) rfl rfl (.t rfl) (.i (by decide) (by decide)) .add ?_
                  refine s_move (.n rfl) rfl rfl (.t rfl) ?_
                  cases ho
                  exact s_nil (fun fr h s => And.intro rfl (Exists.intro [v296] (s.pick [1, 2, 0] ⟨rfl, rfl, rfl, rfl, rfl, rfl, rfl, trivial⟩ rfl (by decide))))
                · have ho := cnd0 ho hb293
                  refine s_load U78 (.g rfl rfl (gf0 hb293)) rfl rfl (.t rfl) ?_
                  refine s_move (.g rfl rfl (gf0 hb293)) rfl rfl (.t rfl) ?_
                  refine s_move (.g rfl rfl (gf0 hb293)) rfl rfl (.t rfl) ?_
                  refine s_leno 2 S22 (.g rfl rfl (gf0 hb293)) rfl rfl rfl rfl rfl (.t rfl) rfl ?_
                  refine s_ar (.g rfl rfl (gf0 hb293)) rfl rfl (.t rfl) (.i (by decide) (by decide)) .sub ?_
                  obtain ⟨x298, hx298, ho⟩ := bnd ho
                  refine s_idxo 2 S22 hx298 (.g rfl rfl (gf0 hb293)) rfl rfl (.t rfl) rfl (.t rfl) ?_
                  refine s_loado 2 (fun _ h => by cases h <;> rfl) U3 FOk.self (idx_inv hx298).2.2.2 (.g rfl rfl (gf0 hb293)) rfl rfl (.t rfl) rfl ?_
                  refine s_move (.g rfl rfl (gf0 hb293)) rfl rfl (.t rfl) ?_
                  obtain ⟨y299, hy299, ho⟩ := bnd ho
                  refine s_callv hy299 (.g rfl rfl (gf0 hb293)) rfl rfl rfl (.t rfl) (.c (.t rfl) (.c (.t rfl) .n)) ?_
                  show SOps _ _ _ _ _ _ _ _
                  refine s_pk0 hb293 (.g rfl rfl (gt1 hb292)) rfl rfl (.t rfl) (.t rfl) ?_
                  refine s_pk1 hb292 (.n rfl) rfl rfl (.t rfl) (.t rfl) ?_
                  refine s_nilq rfl ?_
                  refine r_cond (.t rfl) (fun hq300 => ?_) (fun hq300 => ?_)
                  · have ho := cnd1 ho hq300
                    refine r_seq ?_
                    refine r_region ?_
                    refine s_move (.n rfl) rfl rfl (.t rfl) ?_
                    refine s_move (.n rfl) rfl rfl (.t rfl) ?_
                    refine s_bs (R := (rInt .i64)) S22 Y3 (.n rfl) rfl rfl (.c (.t rfl) .n) rfl (by decide) ?_
                    obtain ⟨x301, hx301, ho⟩ := bnd ho
                    refine s_app 2 S22 Y3 hx301 (.n rfl) rfl rfl rfl rfl rfl (.t rfl) rfl (.t rfl) rfl ?_
                    intro v302
                    refine s_assign (.n rfl) rfl rfl (.t rfl) ?_
                    refine s_nilq rfl ?_
                    refine r_region ?_
                    refine s_move (.n rfl) rfl rfl (.t rfl) ?_
                    refine s_ar (.n rfl) rfl rfl (.t rfl) (.i (by decide) (by decide)) .sub ?_
                    refine s_assign (.n rfl) rfl rfl (.t rfl) ?_
                    refine s_nilq rfl ?_
                    refine r_region ?_
                    refine s_ar (.n rfl) rfl rfl (.t rfl) (.i (by decide) (by decide)) .add ?_
                    refine s_move (.n rfl) rfl rfl (.t rfl) ?_
                    cases ho
                    exact s_nil (fun fr h s => And.intro rfl (Exists.intro [v302] (s.pick [1, 2, 0] ⟨rfl, rfl, rfl, rfl, rfl, rfl, rfl, trivial⟩ rfl (by decide))))
                  · have ho := cnd0 ho hq300
                    refine r_skipq rfl ?_
                    refine r_region ?_
                    refine s_ar (.n rfl) rfl rfl (.t rfl) (.i (by decide) (by decide)) .add ?_
                    refine s_move (.n rfl) rfl rfl (.t rfl) ?_
                    cases ho
                    exact s_nil (fun fr h s => And.intro rfl (Exists.intro [(gh g281 0)] (s.pick [0, 1, 2] ⟨rfl, rfl, rfl, rfl, rfl, rfl, rfl, trivial⟩ rfl (by decide))))
              · have ho := cnd0 ho hb292
                refine s_skip (.g rfl rfl (gt0 hb292)) rfl ?_
                refine s_skip (.g rfl rfl (gt0 hb292)) rfl ?_
                refine s_skip (.g rfl rfl (gt0 hb292)) rfl ?_
                refine s_skip (.g rfl rfl (gt0 hb292)) rfl ?_
                refine s_skip (.u rfl rfl rfl) rfl ?_
                refine s_skip (.u rfl rfl rfl) rfl ?_
                refine s_skip (.u rfl rfl rfl) rfl ?_
                refine s_skip (.u rfl rfl rfl) rfl ?_
                refine s_skip (.u rfl rfl rfl) rfl ?_
                refine s_skip (.u rfl rfl rfl) rfl ?_
                refine s_skip (.u rfl rfl rfl) rfl ?_
                refine s_skip (.u rfl rfl rfl) rfl ?_
                refine s_skip (.u rfl rfl rfl) rfl ?_
                refine s_skip (.g rfl rfl (gt0 hb292)) rfl ?_
                refine s_pk0 hb292 (.n rfl) rfl rfl (.t rfl) .b ?_
                refine s_nilq rfl ?_
                refine r_cond (.t rfl) (fun hq => by cases hq) (fun _ => ?_)
                refine r_skipq rfl ?_
                refine r_region ?_
                refine s_ar (.n rfl) rfl rfl (.t rfl) (.i (by decide) (by decide)) .add ?_
                refine s_move (.n rfl) rfl rfl (.t rfl) ?_
                cases ho
                exact s_nil (fun fr h s => And.intro rfl (Exists.intro [(gh g281 0)] (s.pick [0, 1, 2] ⟨rfl, rfl, rfl, rfl, rfl, rfl, rfl, trivial⟩ rfl (by decide))))
            · have ho := cnd0 ho hq285
              cases ho
              exact r_exit (fun fr h s => And.intro rfl (Exists.intro [(gh g281 0)] (s.pick [1, 2] ⟨rfl, rfl, trivial⟩ rfl (by decide))))
          · intro g310
            show ∀ fr h, St _ [(9, .raw ((gh g169 2))), (16, .raw ((gh g310 0)))] [((gh g169 2), .row (rInt .i64) (t167.2)), ((gh g310 0), .row (rInt .i64) (t308))] fr h → _
            show SRun _ _ _ _ _ _
            refine r_seq ?_
            refine r_region ?_
            refine s_move (.n rfl) rfl rfl (.t rfl) ?_
            refine s_move (.n rfl) rfl rfl (.t rfl) ?_
            refine s_assign (.n rfl) rfl rfl (.t rfl) ?_
            refine s_assign (.n rfl) rfl rfl (.t rfl) ?_
            refine s_assign (.n rfl) rfl rfl (.i (by decide) (by decide)) ?_
            refine s_nilq rfl ?_
            cases ho
            exact r_ret (ret_of (.inr rfl) (.r 0 rfl rfl (.r 1 rfl rfl (.v rfl .n))) (by decide))
theorem g_ref09_Same_ok {a_0 : (List Int)} {b_1 : (List Int)} {out : (Bool)} (ho : g_ref09_Same a_0 b_1 = some out) : Fun ktab 15 [.val (rSlice (rInt .i64)) a_0, .val (rSlice (rInt .i64)) b_1] [.val rBool (out)] := by
  refine fun_of (F := Try.f15) (by rfl) (by rfl) (by rfl) (fun C hC => ?_)
  delta g_ref09_Same at ho
  refine r_seq ?_
  refine r_region ?_
  refine s_assign (.n rfl) rfl rfl .b ?_
  refine s_nilq rfl ?_
  refine r_seq ?_
  refine r_seq ?_
  refine r_region ?_
  refine s_move (.n rfl) rfl rfl (.t rfl) ?_
  refine s_len S22 (.n rfl) rfl rfl rfl rfl rfl (.t rfl) ?_
  refine s_move (.n rfl) rfl rfl (.t rfl) ?_
  refine s_len S22 (.n rfl) rfl rfl rfl rfl rfl (.t rfl) ?_
  refine s_cmp (.n rfl) rfl rfl (.t rfl) (.t rfl) .neq ?_
  refine s_nilq rfl ?_
  refine r_cond (.t rfl) (fun hq1 => ?_) (fun hq1 => ?_)
  · have ho := cnd1 ho hq1
    refine r_seq ?_
    refine r_region ?_
    refine s_assign (.n rfl) rfl rfl .b ?_
    refine s_nilq rfl ?_
    cases ho
    exact r_ret (ret_of (.inr rfl) (.v rfl .n) (by decide))
  · have ho := cnd0 ho hq1
    refine r_skipq rfl ?_
    refine r_seq ?_
    refine r_seq ?_
    refine r_region ?_
    refine s_assign (.n rfl) rfl rfl (.i (by decide) (by decide)) ?_
    refine s_nilq rfl ?_
    refine r_block ?_
    obtain ⟨t12, ht12, ho⟩ := bnd ho
    refine r_loop (σ := (Int)) (τ := Unit ⊕ (Bool)) (G := List AVal) (fun s g => ([(0, .val (rSlice (rInt .i64)) (a_0)), (1, .val (rSlice (rInt .i64)) (b_1)), (5, .val (rInt .i64) (s))], [])) (altX (fun b => (.exit 0, fun g => ([], []))) (fun b => (.ret, fun g => ([(4, .val rBool (b))], [])))) _ [] ht12 (fun fr h s => s.pick [] ⟨rfl, rfl, rfl, trivial⟩ rfl (by decide)) ?_ ?_ ?_
    · intro t
      rcases t with t | t
      · exact (show (.exit 0 : AExit) ≠ .normal from fun e => by cases e)
      · exact (show (.ret : AExit) ≠ .normal from fun e => by cases e)
    · clear ho
      intro s6 g7 r13 ho
      refine r_seq ?_
      refine r_seq ?_
      refine r_region ?_
      refine s_move (.n rfl) rfl rfl (.t rfl) ?_
      refine s_move (.n rfl) rfl rfl (.t rfl) ?_
      refine s_len S22 (.n rfl) rfl rfl rfl rfl rfl (.t rfl) ?_
      refine s_cmp (.n rfl) rfl rfl (.t rfl) (.t rfl) .lss ?_
      refine s_nilq rfl ?_
      refine r_cond (.t rfl) (fun hq8 => ?_) (fun hq8 => ?_)
      · have ho := cnd1 ho hq8
        refine r_skipq rfl ?_
        refine r_seq ?_
        refine r_block ?_
        refine r_seq ?_
        refine r_draw [] (by kernel_rfl) ?_
        refine s_move (.n rfl) rfl rfl (.t rfl) ?_
        refine s_move (.n rfl) rfl rfl (.t rfl) ?_
        obtain ⟨x9, hx9, ho⟩ := bnd ho
        refine s_idx S22 hx9 (.n rfl) rfl rfl (.t rfl) (.t rfl) ?_
        refine s_load U3 (.n rfl) rfl rfl (.t rfl) ?_
        refine s_move (.n rfl) rfl rfl (.t rfl) ?_
        refine s_move (.n rfl) rfl rfl (.t rfl) ?_
        obtain ⟨x10, hx10, ho⟩ := bnd ho
        refine s_idx S22 hx10 (.n rfl) rfl rfl (.t rfl) (.t rfl) ?_
        refine s_load U3 (.n rfl) rfl rfl (.t rfl) ?_
        refine s_cmp (.n rfl) rfl rfl (.t rfl) (.t rfl) .neq ?_
        refine s_nilq rfl ?_
        refine r_cond (.t rfl) (fun hq11 => ?_) (fun hq11 => ?_)
        · have ho := cnd1 ho hq11
          refine r_seq ?_
          refine r_region ?_
          refine s_assign (.n rfl) rfl rfl .b ?_
          refine s_nilq rfl ?_
          cases ho
          exact r_ret (fun fr h s => And.intro rfl (Exists.intro [] (s.pick [] ⟨rfl, trivial⟩ rfl (by decide))))
        · have ho := cnd0 ho hq11
          refine r_skipq rfl ?_
          refine r_region ?_
          refine s_move (.n rfl) rfl rfl (.t rfl) ?_
          refine s_ar (.n rfl) rfl rfl (.t rfl) (.i (by decide) (by decide)) .add ?_
          refine s_assign (.n rfl) rfl rfl (.t rfl) ?_
          cases ho
          exact s_nil (fun fr h s => And.intro rfl (Exists.intro [] (s.pick [] ⟨rfl, rfl, rfl, trivial⟩ rfl (by decide))))
      · have ho := cnd0 ho hq8
        cases ho
        exact r_exit (fun fr h s => And.intro rfl (Exists.intro [] (s.pick [] trivial rfl (by decide))))
    · clear ht12
      rcases t12 with b14 | b15
      · have ho := alt_l ho
        intro g16
        show ∀ fr h, St _ [] [] fr h → _
        show SRun _ _ _ _ _ _
        refine r_seq ?_
        refine r_region ?_
        refine s_assign (.n rfl) rfl rfl .b ?_
        refine s_nilq rfl ?_
        cases ho
        exact r_ret (ret_of (.inr rfl) (.v rfl .n) (by decide))
      · have ho := alt_r ho
        intro g17
        show ∀ fr h, St _ [(4, .val rBool (b15))] [] fr h → _
        cases ho
        exact id (ret_of (.inr rfl) (.v rfl .n) (by decide))
theorem g_ref09_in_ok {x_0 : Int} {low_1 : Int} {high_2 : Int} {out : (Bool)} (ho : g_ref09_in x_0 low_1 high_2 = some out) : Fun ktab 40 [.val (rInt .i64) x_0, .val (rInt .i64) low_1, .val (rInt .i64) high_2] [.val rBool (out)] := by
  refine fun_of (F := Try.f40) (by rfl) (by rfl) (by rfl) (fun C hC => ?_)
  delta g_ref09_in at ho
  refine r_seq ?_
  refine r_region ?_
  refine s_assign (.n rfl) rfl rfl .b ?_
  refine s_nilq rfl ?_
  refine r_seq ?_
  obtain ⟨c2, hc2, ho⟩ := bnd ho
  refine r_cut (τ := (Bool)) (G := Unit) (fun t => (.normal, fun _ => ([(6, .val rBool (t))], []))) (t := c2) ?_ ?_
  · have ho := hc2
    clear hc2
    refine r_region ?_
    refine s_move (.n rfl) rfl rfl (.t rfl) ?_
    refine s_move (.n rfl) rfl rfl (.t rfl) ?_
    refine s_cmp (.n rfl) rfl rfl (.t rfl) (.t rfl) .geq ?_
    refine s_move (.n rfl) rfl rfl (.t rfl) ?_
    rcases Bool.eq_false_or_eq_true ((decide (x_0 ≥ low_1))) with hb3 | hb3
    · have ho := cnd1 ho hb3
      refine s_move (.g rfl rfl (gt1 hb3)) rfl rfl (.t rfl) ?_
      refine s_move (.g rfl rfl (gt1 hb3)) rfl rfl (.t rfl) ?_
      refine s_cmp (.g rfl rfl (gt1 hb3)) rfl rfl (.t rfl) (.t rfl) .leq ?_
      refine s_pk1 hb3 (.n rfl) rfl rfl (.t rfl) (.t rfl) ?_
      refine s_assign (.n rfl) rfl rfl (.t rfl) ?_
      cases ho
      exact s_nil (fun fr h s => And.intro rfl (Exists.intro () (s.pick [] ⟨rfl, trivial⟩ rfl (by decide))))
    · have ho := cnd0 ho hb3
      refine s_skip (.g rfl rfl (gt0 hb3)) rfl ?_
      refine s_skip (.g rfl rfl (gt0 hb3)) rfl ?_
      refine s_skip (.g rfl rfl (gt0 hb3)) rfl ?_
      refine s_pk0 hb3 (.n rfl) rfl rfl (.t rfl) .b ?_
      refine s_assign (.n rfl) rfl rfl (.t rfl) ?_
      cases ho
      exact s_nil (fun fr h s => And.intro rfl (Exists.intro () (s.pick [] ⟨rfl, trivial⟩ rfl (by decide))))
  · intro _
    show SRun _ _ _ _ _ _
    cases ho
    exact r_ret (ret_of (.inr rfl) (.v rfl .n) (by decide))
theorem g_ref09_Order_ok {l_0 : (List Int)} {out : (Bool)} (ho : g_ref09_Order l_0 = some out) : Fun ktab 14 [.val (rSlice (rInt .i64)) l_0] [.val rBool (out)] := by
  refine fun_of (F := Try.f14) (by rfl) (by rfl) (by rfl) (fun C hC => ?_)
  delta g_ref09_Order at ho
  refine r_seq ?_
  refine r_region ?_
  refine s_assign (.n rfl) rfl rfl .b ?_
  refine s_nilq rfl ?_
  refine r_seq ?_
  refine r_region ?_
  refine s_move (.n rfl) rfl rfl (.t rfl) ?_
  refine s_len S22 (.n rfl) rfl rfl rfl rfl rfl (.t rfl) ?_
  obtain ⟨x1, hx1, ho⟩ := bnd ho
  refine s_mk S84 Y4 Z4 hx1 (.n rfl) rfl rfl (.t rfl) (.t rfl) ?_
  intro v2
  refine s_assign (.n rfl) rfl rfl (.t rfl) ?_
  refine s_nilq rfl ?_
  refine r_seq ?_
  refine r_seq ?_
  refine r_region ?_
  refine s_assign (.n rfl) rfl rfl (.i (by decide) (by decide)) ?_
  refine s_nilq rfl ?_
  refine r_block ?_
  obtain ⟨t51, ht51, ho⟩ := bnd ho
  refine r_loop (σ := (Int × (List Bool))) (τ := ((List Bool)) ⊕ (Bool × (List Bool))) (G := List AVal) (fun s g => ([(0, .val (rSlice (rInt .i64)) (l_0)), (3, .raw v2), (4, .val (rInt .i64) (s.1))], [(v2, .row rBool (s.2))])) (altX (fun b => (.exit 0, fun g => ([(0, .val (rSlice (rInt .i64)) (l_0))], []))) (fun b => (.ret, fun g => ([(2, .val rBool (b.1))], [])))) _ [] ht51 (fun fr h s => s.pick [0] ⟨rfl, rfl, rfl, trivial⟩ rfl (by decide)) ?_ ?_ ?_
  · intro t
    rcases t with t | t
    · exact (show (.exit 0 : AExit) ≠ .normal from fun e => by cases e)
    · exact (show (.ret : AExit) ≠ .normal from fun e => by cases e)
  · clear ho
    intro s34 g35 r52 ho
    refine r_seq ?_
    refine r_seq ?_
    refine r_region ?_
    refine s_move (.n rfl) rfl rfl (.t rfl) ?_
    refine s_move (.n rfl) rfl rfl (.t rfl) ?_
    refine s_len S22 (.n rfl) rfl rfl rfl rfl rfl (.t rfl) ?_
    refine s_cmp (.n rfl) rfl rfl (.t rfl) (.t rfl) .lss ?_
    refine s_nilq rfl ?_
    refine r_cond (.t rfl) (fun hq36 => ?_) (fun hq36 => ?_)
    · have ho := cnd1 ho hq36
      refine r_skipq rfl ?_
      refine r_seq ?_
      refine r_block ?_
      refine r_seq ?_
      refine r_seq ?_
      refine r_region ?_
      refine s_move (.n rfl) rfl rfl (.t rfl) ?_
      refine s_move (.n rfl) rfl rfl (.t rfl) ?_
      obtain ⟨x42, hx42, ho⟩ := bnd ho
      refine s_idx S22 hx42 (.n rfl) rfl rfl (.t rfl) (.t rfl) ?_
      refine s_load U3 (.n rfl) rfl rfl (.t rfl) ?_
      refine s_move (.n rfl) rfl rfl (.t rfl) ?_
      refine s_len S22 (.n rfl) rfl rfl rfl rfl rfl (.t rfl) ?_
      refine s_ar (.n rfl) rfl rfl (.t rfl) (.i (by decide) (by decide)) .sub ?_
      obtain ⟨y43, hy43, ho⟩ := bnd ho
      refine s_calll (g_ref09_in_ok hy43) (.v flat_bool .n) rfl (.n rfl) rfl rfl rfl .f (.c (.o (.t rfl)) (.c (.o (.i (by decide) (by decide))) (.c (.o (.t rfl)) .n))) ?_
      show SOps _ _ _ _ _ _ _ _
      refine s_not (.n rfl) rfl rfl (.t rfl) ?_
      refine s_move (.n rfl) rfl rfl (.t rfl) ?_
      rcases Bool.eq_false_or_eq_true ((!y43)) with hb44 | hb44
      · have ho := cnd1 ho hb44
        refine s_skip (.g rfl rfl (gf1 hb44)) rfl ?_
        refine s_skip (.g rfl rfl (gf1 hb44)) rfl ?_
        refine s_skip (.g rfl rfl (gf1 hb44)) rfl ?_
        refine s_skip (.g rfl rfl (gf1 hb44)) rfl ?_
        refine s_skip (.g rfl rfl (gf1 hb44)) rfl ?_
        refine s_skip (.g rfl rfl (gf1 hb44)) rfl ?_
        refine s_skip (.g rfl rfl (gf1 hb44)) rfl ?_
        refine s_pk1 hb44 (.n rfl) rfl rfl (.t rfl) .b ?_
        refine s_nilq rfl ?_
        refine r_cond (.t rfl) (fun _ => ?_) (fun hq => by cases hq)
        refine r_seq ?_
        refine r_region ?_
        refine s_assign (.n rfl) rfl rfl .b ?_
        refine s_nilq rfl ?_
        cases ho
        exact r_ret (fun fr h s => And.intro rfl (Exists.intro [] (s.pick [] ⟨rfl, trivial⟩ rfl (by decide))))
      · have ho := cnd0 ho hb44
        refine s_move (.g rfl rfl (gf0 hb44)) rfl rfl (.t rfl) ?_
        refine s_move (.g rfl rfl (gf0 hb44)) rfl rfl (.t rfl) ?_
        refine s_move (.g rfl rfl (gf0 hb44)) rfl rfl (.t rfl) ?_
        obtain ⟨x46, hx46, ho⟩ := bnd ho
        refine s_idx S22 hx46 (.g rfl rfl (gf0 hb44)) rfl rfl (.t rfl) (.t rfl) ?_
        refine s_load U3 (.g rfl rfl (gf0 hb44)) rfl rfl (.t rfl) ?_
        obtain ⟨x47, hx47, ho⟩ := bnd ho
        refine s_idxo 0 S84 hx47 (.g rfl rfl (gf0 hb44)) rfl rfl (.t rfl) rfl (.t rfl) ?_
        refine s_loado 0 (fun _ h => by cases h <;> rfl) U4 FOk.self (idx_inv hx47).2.2.2 (.g rfl rfl (gf0 hb44)) rfl rfl (.t rfl) rfl ?_
        refine s_pk0 hb44 (.n rfl) rfl rfl (.t rfl) (.t rfl) ?_
        refine s_nilq rfl ?_
        refine r_cond (.t rfl) (fun hq48 => ?_) (fun hq48 => ?_)
        · have ho := cnd1 ho hq48
          refine r_seq ?_
          refine r_region ?_
          refine s_assign (.n rfl) rfl rfl .b ?_
          refine s_nilq rfl ?_
          cases ho
          exact r_ret (fun fr h s => And.intro rfl (Exists.intro [] (s.pick [] ⟨rfl, trivial⟩ rfl (by decide))))
        · have ho := cnd0 ho hq48
          refine r_skipq rfl ?_
          refine r_region ?_
          refine s_move (.n rfl) rfl rfl (.t rfl) ?_
          refine s_move (.n rfl) rfl rfl (.t rfl) ?_
          refine s_move (.n rfl) rfl rfl (.t rfl) ?_
          obtain ⟨x49, hx49, ho⟩ := bnd ho
          refine s_idx S22 hx49 (.n rfl) rfl rfl (.t rfl) (.t rfl) ?_
          refine s_load U3 (.n rfl) rfl rfl (.t rfl) ?_
          obtain ⟨x50, hx50, ho⟩ := bnd ho
          refine s_idxo 0 S84 hx50 (.n rfl) rfl rfl (.t rfl) rfl (.t rfl) ?_
          refine s_storeo 0 U4 FOk.self (idx_inv hx50).2.2.2 (.n rfl) rfl rfl (.t rfl) .b rfl rfl ?_
          refine s_nilq rfl ?_
          refine r_region ?_
          refine s_move (.n rfl) rfl rfl (.t rfl) ?_
          refine s_ar (.n rfl) rfl rfl (.t rfl) (.i (by decide) (by decide)) .add ?_
          refine s_assign (.n rfl) rfl rfl (.t rfl) ?_
          cases ho
          exact s_nil (fun fr h s => And.intro rfl (Exists.intro [] (s.pick [0] ⟨rfl, rfl, rfl, trivial⟩ rfl (by decide))))
    · have ho := cnd0 ho hq36
      cases ho
      exact r_exit (fun fr h s => And.intro rfl (Exists.intro [] (s.pick [] ⟨rfl, trivial⟩ rfl (by decide))))
  · clear ht51
    rcases t51 with b53 | b54
    · have ho := alt_l ho
      intro g55
      show ∀ fr h, St _ [(0, .val (rSlice (rInt .i64)) (l_0))] [] fr h → _
      show SRun _ _ _ _ _ _
      refine r_seq ?_
      refine r_region ?_
      refine s_move (.n rfl) rfl rfl (.t rfl) ?_
      refine s_len S22 (.n rfl) rfl rfl rfl rfl rfl (.t rfl) ?_
      refine s_cmp (.n rfl) rfl rfl (.t rfl) (.i (by decide) (by decide)) .leq ?_
      refine s_assign (.n rfl) rfl rfl (.t rfl) ?_
      refine s_nilq rfl ?_
      cases ho
      exact r_ret (ret_of (.inr rfl) (.v rfl .n) (by decide))
    · have ho := alt_r ho
      intro g56
      show ∀ fr h, St _ [(2, .val rBool (b54.1))] [] fr h → _
      cases ho
      exact id (ret_of (.inr rfl) (.v rfl .n) (by decide))
theorem g_ref09_InWay_ok {l_0 : (List Int)} {through_1 : Bool} {i_2 : Int} {j_3 : Int} {out : (Bool)} (ho : g_ref09_InWay l_0 through_1 i_2 j_3 = some out) : Fun ktab 41 [.val (rSlice (rInt .i64)) l_0, .val rBool through_1, .val (rInt .i64) i_2, .val (rInt .i64) j_3] [.val rBool (out)] := by
  refine fun_of (F := Try.f41) (by rfl) (by rfl) (by rfl) (fun C hC => ?_)
  delta g_ref09_InWay at ho
  refine r_seq ?_
  refine r_region ?_
  refine s_assign (.n rfl) rfl rfl .b ?_
  refine s_nilq rfl ?_
  refine r_seq ?_
  refine r_seq ?_
  refine r_region ?_
  refine s_move (.n rfl) rfl rfl (.t rfl) ?_
  refine s_nilq rfl ?_
  refine r_cond (.t rfl) (fun hq1 => ?_) (fun hq1 => ?_)
  · have ho := cnd1 ho hq1
    refine r_seq ?_
    refine r_draw [] (by kernel_rfl) ?_
    refine s_move (.n rfl) rfl rfl (.t rfl) ?_
    refine s_move (.n rfl) rfl rfl (.t rfl) ?_
    obtain ⟨x2, hx2, ho⟩ := bnd ho
    refine s_idx S22 hx2 (.n rfl) rfl rfl (.t rfl) (.t rfl) ?_
    refine s_load U3 (.n rfl) rfl rfl (.t rfl) ?_
    refine s_move (.n rfl) rfl rfl (.t rfl) ?_
    refine s_move (.n rfl) rfl rfl (.t rfl) ?_
    obtain ⟨x3, hx3, ho⟩ := bnd ho
    refine s_idx S22 hx3 (.n rfl) rfl rfl (.t rfl) (.t rfl) ?_
    refine s_load U3 (.n rfl) rfl rfl (.t rfl) ?_
    refine s_cmp (.n rfl) rfl rfl (.t rfl) (.t rfl) .lss ?_
    refine s_assign (.n rfl) rfl rfl (.t rfl) ?_
    refine s_nilq rfl ?_
    cases ho
    exact r_ret (ret_of (.inr rfl) (.v rfl .n) (by decide))
  · have ho := cnd0 ho hq1
    refine r_skipq rfl ?_
    refine r_seq ?_
    refine r_draw [] (by kernel_rfl) ?_
    refine s_move (.n rfl) rfl rfl (.t rfl) ?_
    refine s_move (.n rfl) rfl rfl (.t rfl) ?_
    obtain ⟨x4, hx4, ho⟩ := bnd ho
    refine s_idx S22 hx4 (.n rfl) rfl rfl (.t rfl) (.t rfl) ?_
    refine s_load U3 (.n rfl) rfl rfl (.t rfl) ?_
    refine s_move (.n rfl) rfl rfl (.t rfl) ?_
    refine s_move (.n rfl) rfl rfl (.t rfl) ?_
    obtain ⟨x5, hx5, ho⟩ := bnd ho
    refine s_idx S22 hx5 (.n rfl) rfl rfl (.t rfl) (.t rfl) ?_
    refine s_load U3 (.n rfl) rfl rfl (.t rfl) ?_
    refine s_cmp (.n rfl) rfl rfl (.t rfl) (.t rfl) .lss ?_
    refine s_assign (.n rfl) rfl rfl (.t rfl) ?_
    refine s_nilq rfl ?_
    cases ho
    exact r_ret (ret_of (.inr rfl) (.v rfl .n) (by decide))
theorem g_ref09_Assign_ok {l_0 : (List Int)} {through_1 : Bool} {out : ((List Int))} (ho : g_ref09_Assign l_0 through_1 = some out) : Fun ktab 16 [.val (rSlice (rInt .i64)) l_0, .val rBool through_1] [.row (rInt .i64) (out)] := by
  refine fun_of (F := Try.f16) (by rfl) (by rfl) (by rfl) (fun C hC => ?_)
  delta g_ref09_Assign at ho
  refine r_seq ?_
  refine r_region ?_
  refine s_st (st_nilrow (rInt .i64)) ?_
  refine s_assign (.n rfl) rfl rfl .nilr ?_
  refine s_nilq rfl ?_
  refine r_seq ?_
  refine r_region ?_
  refine s_move (.n rfl) rfl rfl (.t rfl) ?_
  refine s_len S22 (.n rfl) rfl rfl rfl rfl rfl (.t rfl) ?_
  obtain ⟨x2, hx2, ho⟩ := bnd ho
  refine s_mk S22 Y3 Z3 hx2 (.n rfl) rfl rfl (.t rfl) (.t rfl) ?_
  intro v3
  refine s_assign (.n rfl) rfl rfl (.t rfl) ?_
  refine s_nilq rfl ?_
  refine r_seq ?_
  refine r_seq ?_
  refine r_region ?_
  refine s_assign (.n rfl) rfl rfl (.i (by decide) (by decide)) ?_
  refine s_nilq rfl ?_
  refine r_block ?_
  obtain ⟨t304, ht304, ho⟩ := bnd ho
  refine r_loop (σ := (Int × (List Int))) (τ := ((List Int))) (G := List AVal) (fun s g => ([(0, .val (rSlice (rInt .i64)) (l_0)), (1, .val rBool (through_1)), (5, .raw v3), (6, .val (rInt .i64) (s.1))], [(v3, .row (rInt .i64) (s.2))])) (fun b => (.exit 0, fun g => ([(5, .raw v3)], [(v3, .row (rInt .i64) (b))]))) _ [] ht304 (fun fr h s => s.pick [0] ⟨rfl, rfl, rfl, rfl, trivial⟩ rfl (by decide)) ?_ ?_ ?_
  · intro t
    exact (show (.exit 0 : AExit) ≠ .normal from fun e => by cases e)
  · clear ho
    intro s203 g204 r305 ho
    refine r_seq ?_
    refine r_seq ?_
    refine r_region ?_
    refine s_move (.n rfl) rfl rfl (.t rfl) ?_
    refine s_move (.n rfl) rfl rfl (.t rfl) ?_
    refine s_len S22 (.n rfl) rfl rfl rfl rfl rfl (.t rfl) ?_
    refine s_cmp (.n rfl) rfl rfl (.t rfl) (.t rfl) .lss ?_
    refine s_nilq rfl ?_
    refine r_cond (.t rfl) (fun hq205 => ?_) (fun hq205 => ?_)
    · have ho := cnd1 ho hq205
      refine r_skipq rfl ?_
      refine r_seq ?_
      refine r_block ?_
      refine r_seq ?_
      refine r_region ?_
      refine s_assign (.n rfl) rfl rfl .b ?_
      refine s_nilq rfl ?_
      refine r_block ?_
      obtain ⟨t301, ht301, ho⟩ := bnd ho
      refine r_loop (σ := (Bool × (List Int))) (τ := ((List Int))) (G := List AVal) (fun s g => ([(0, .val (rSlice (rInt .i64)) (l_0)), (1, .val rBool (through_1)), (5, .raw v3), (6, .val (rInt .i64) (s203.1)), (7, .val rBool (s.1))], [(v3, .row (rInt .i64) (s.2))])) (fun b => (.exit 2, fun g => ([(0, .val (rSlice (rInt .i64)) (l_0)), (1, .val rBool (through_1)), (5, .raw v3), (6, .val (rInt .i64) (s203.1))], [(v3, .row (rInt .i64) (b))]))) _ [] ht301 (fun fr h s => s.pick [0] ⟨rfl, rfl, rfl, rfl, rfl, trivial⟩ rfl (by decide)) ?_ ?_ ?_
      · intro t
        exact (show (.exit 2 : AExit) ≠ .normal from fun e => by cases e)
      · clear ho
        intro s268 g269 r302 ho
        refine r_seq ?_
        refine r_seq ?_
        refine r_region ?_
        refine s_move (.n rfl) rfl rfl (.t rfl) ?_
        refine s_nilq rfl ?_
        refine r_cond (.t rfl) (fun hq270 => ?_) (fun hq270 => ?_)
        · have ho := cnd1 ho hq270
          refine r_skipq rfl ?_
          refine r_block ?_
          refine r_seq ?_
          refine r_region ?_
          refine s_assign (.n rfl) rfl rfl .b ?_
          refine s_nilq rfl ?_
          refine r_seq ?_
          refine r_seq ?_
          refine r_region ?_
          refine s_assign (.n rfl) rfl rfl (.i (by decide) (by decide)) ?_
          refine s_nilq rfl ?_
          refine r_block ?_
          obtain ⟨t295, ht295, ho⟩ := bnd ho
          refine r_loop (σ := (Bool × Int)) (τ := (Bool)) (G := List AVal) (fun s g => ([(0, .val (rSlice (rInt .i64)) (l_0)), (1, .val rBool (through_1)), (5, .raw v3), (6, .val (rInt .i64) (s203.1)), (7, .val rBool (s.1)), (8, .val (rInt .i64) (s.2))], [(v3, .row (rInt .i64) (s268.2))])) (fun b => (.exit 4, fun g => ([(0, .val (rSlice (rInt .i64)) (l_0)), (1, .val rBool (through_1)), (5, .raw v3), (6, .val (rInt .i64) (s203.1)), (7, .val rBool (b))], [(v3, .row (rInt .i64) (s268.2))]))) _ [] ht295 (fun fr h s => s.pick [0] ⟨rfl, rfl, rfl, rfl, rfl, rfl, trivial⟩ rfl (by decide)) ?_ ?_ ?_
          · intro t
            exact (show (.exit 4 : AExit) ≠ .normal from fun e => by cases e)
          · clear ho
            intro s282 g283 r296 ho
            refine r_seq ?_
            refine r_seq ?_
            refine r_region ?_
            refine s_move (.n rfl) rfl rfl (.t rfl) ?_
            refine s_move (.n rfl) rfl rfl (.t rfl) ?_
            refine s_cmp (.n rfl) rfl rfl (.t rfl) (.t rfl) .lss ?_
            refine s_nilq rfl ?_
            refine r_cond (.t rfl) (fun hq284 => ?_) (fun hq284 => ?_)
            · have ho := cnd1 ho hq284
              refine r_skipq rfl ?_
              refine r_seq ?_
              refine r_block ?_
              refine r_draw [5, 9] (by kernel_rfl) ?_
              refine s_move (.n rfl) rfl rfl (.t rfl) ?_
              refine s_move (.n rfl) rfl rfl (.t rfl) ?_
              rcases Bool.eq_false_or_eq_true (s282.1) with hb290 | hb290
              · have ho := cnd1 ho hb290
                refine s_skip (.g rfl rfl (gf1 hb290)) rfl ?_
                refine s_skip (.g rfl rfl (gf1 hb290)) rfl ?_
                refine s_skip (.g rfl rfl (gf1 hb290)) rfl ?_
                refine s_skip (.g rfl rfl (gf1 hb290)) rfl ?_
                refine s_skip (.g rfl rfl (gf1 hb290)) rfl ?_
                refine s_skip (.g rfl rfl (gf1 hb290)) rfl ?_
                refine s_skip (.g rfl rfl (gf1 hb290)) rfl ?_
                refine s_skip (.g rfl rfl (gf1 hb290)) rfl ?_
                refine s_skip (.g rfl rfl (gf1 hb290)) rfl ?_
                refine s_skip (.g rfl rfl (gf1 hb290)) rfl ?_
                refine s_skip (.u rfl rfl rfl) rfl ?_
                refine s_skip (.u rfl rfl rfl) rfl ?_
                refine s_skip (.u rfl rfl rfl) rfl ?_
                refine s_skip (.u rfl rfl rfl) rfl ?_
                refine s_skip (.u rfl rfl rfl) rfl ?_
                refine s_skip (.g rfl rfl (gf1 hb290)) rfl ?_
                refine s_pk1 hb290 (.n rfl) rfl rfl (.t rfl) .b ?_
                refine s_assign (.n rfl) rfl rfl (.t rfl) ?_
                refine s_nilq rfl ?_
                refine r_region ?_
                refine s_move (.n rfl) rfl rfl (.t rfl) ?_
                refine s_ar (.n rfl) rfl rfl (.t rfl) (.i (by decide) (by decide)) .add ?_
                refine s_assign (.n rfl) rfl rfl (.t rfl) ?_
                cases ho
                exact s_nil (fun fr h s => And.intro rfl (Exists.intro [] (s.pick [0] ⟨rfl, rfl, rfl, rfl, rfl, rfl, trivial⟩ rfl (by decide))))
              · have ho := cnd0 ho hb290
                refine s_move (.g rfl rfl (gf0 hb290)) rfl rfl (.t rfl) ?_
                refine s_move (.g rfl rfl (gf0 hb290)) rfl rfl (.t rfl) ?_
                obtain ⟨x291, hx291, ho⟩ := bnd ho
                refine s_idxo 0 S22 hx291 (.g rfl rfl (gf0 hb290)) rfl rfl (.t rfl) rfl (.t rfl) ?_
                refine s_loado 0 (fun _ h => by cases h <;> rfl) U3 FOk.self (idx_inv hx291).2.2.2 (.g rfl rfl (gf0 hb290)) rfl rfl (.t rfl) rfl ?_
                refine s_move (.g rfl rfl (gf0 hb290)) rfl rfl (.t rfl) ?_
                refine s_move (.g rfl rfl (gf0 hb290)) rfl rfl (.t rfl) ?_
                obtain ⟨x292, hx292, ho⟩ := bnd ho
                refine s_idxo 0 S22 hx292 (.g rfl rfl (gf0 hb290)) rfl rfl (.t rfl) rfl (.t rfl) ?_
                refine s_loado 0 (fun _ h => by cases h <;> rfl) U3 FOk.self (idx_inv hx292).2.2.2 (.g rfl rfl (gf0 hb290)) rfl rfl (.t rfl) rfl ?_
                refine s_cmp (.g rfl rfl (gf0 hb290)) rfl rfl (.t rfl) (.t rfl) .eql ?_
                refine s_move (.g rfl rfl (gf0 hb290)) rfl rfl (.t rfl) ?_
                rcases Bool.eq_false_or_eq_true ((x291 == x292)) with hb293 | hb293
                · have ho := cnd1 ho hb293
                  refine s_move (.g rfl rfl (gt1 hb293)) rfl rfl (.t rfl) ?_
                  refine s_move (.g rfl rfl (gt1 hb293)) rfl rfl (.t rfl) ?_
                  refine s_move (.g rfl rfl (gt1 hb293)) rfl rfl (.t rfl) ?_
                  refine s_move (.g rfl rfl (gt1 hb293)) rfl rfl (.t rfl) ?_
                  obtain ⟨y294, hy294, ho⟩ := bnd ho
                  refine s_calll (g_ref09_InWay_ok hy294) (.v flat_bool .n) rfl (.g rfl rfl (gt1 hb293)) rfl rfl rfl .f (.c (.o (.t rfl)) (.c (.o (.t rfl)) (.c (.o (.t rfl)) (.c (.o (.t rfl)) .n)))) ?_
                  show SOps _ _ _ _ _ _ _ _
                  refine s_pk1 hb293 (.g rfl rfl (gf0 hb290)) rfl rfl (.t rfl) (.t rfl) ?_
                  refine s_pk0 hb290 (.n rfl) rfl rfl (.t rfl) (.t rfl) ?_
                  refine s_assign (.n rfl) rfl rfl (.t rfl) ?_
                  refine s_nilq rfl ?_
                  refine r_region ?_
                  refine s_move (.n rfl) rfl rfl (.t rfl) ?_
                  refine s_ar (.n rfl) rfl rfl (.t rfl) (.i (by decide) (by decide)) .add ?_
                  refine s_assign (.n rfl) rfl rfl (.t rfl) ?_
                  cases ho
                  exact s_nil (fun fr h s => And.intro rfl (Exists.intro [] (s.pick [0] ⟨rfl, rfl, rfl, rfl, rfl, rfl, trivial⟩ rfl (by decide))))
                · have ho := cnd0 ho hb293
                  refine s_skip (.g rfl rfl (gt0 hb293)) rfl ?_
                  refine s_skip (.g rfl rfl (gt0 hb293)) rfl ?_
                  refine s_skip (.g rfl rfl (gt0 hb293)) rfl ?_
                  refine s_skip (.g rfl rfl (gt0 hb293)) rfl ?_
                  refine s_skip (.g rfl rfl (gt0 hb293)) rfl ?_
                  refine s_pk0 hb293 (.g rfl rfl (gf0 hb290)) rfl rfl (.t rfl) .b ?_
                  refine s_pk0 hb290 (.n rfl) rfl rfl (.t rfl) (.t rfl) ?_
                  refine s_assign (.n rfl) rfl rfl (.t rfl) ?_
                  refine s_nilq rfl ?_
                  refine r_region ?_
                  refine s_move (.n rfl) rfl rfl (.t rfl) ?_
                  refine s_ar (.n rfl) rfl rfl (.t rfl) (.i (by decide) (by decide)) .add ?_
                  refine s_assign (.n rfl) rfl rfl (.t rfl) ?_
                  cases ho
                  exact s_nil (fun fr h s => And.intro rfl (Exists.intro [] (s.pick [0] ⟨rfl, rfl, rfl, rfl, rfl, rfl, trivial⟩ rfl (by decide))))
            · have ho := cnd0 ho hq284
              cases ho
              exact r_exit (fun fr h s => And.intro rfl (Exists.intro [] (s.pick [0] ⟨rfl, rfl, rfl, rfl, rfl, trivial⟩ rfl (by decide))))
          · intro g297
            show ∀ fr h, St _ [(0, .val (rSlice (rInt .i64)) (l_0)), (1, .val rBool (through_1)), (5, .raw v3), (6, .val (rInt .i64) (s203.1)), (7, .val rBool (t295))] [(v3, .row (rInt .i64) (s268.2))] fr h → _
            show SRun _ _ _ _ _ _
            refine r_seq ?_
            refine r_region ?_
            refine s_move (.n rfl) rfl rfl (.t rfl) ?_
            refine s_nilq rfl ?_
            refine r_cond (.t rfl) (fun hq298 => ?_) (fun hq298 => ?_)
            · have ho := cnd1 ho hq298
              refine r_region ?_
              refine s_move (.n rfl) rfl rfl (.t rfl) ?_
              refine s_move (.n rfl) rfl rfl (.t rfl) ?_
              obtain ⟨x299, hx299, ho⟩ := bnd ho
              refine s_idxo 0 S22 hx299 (.n rfl) rfl rfl (.t rfl) rfl (.t rfl) ?_
              refine s_loado 0 (fun _ h => by cases h <;> rfl) U3 FOk.self (idx_inv hx299).2.2.2 (.n rfl) rfl rfl (.t rfl) rfl ?_
              refine s_ar (.n rfl) rfl rfl (.t rfl) (.i (by decide) (by decide)) .add ?_
              obtain ⟨x300, hx300, ho⟩ := bnd ho
              refine s_idxo 0 S22 hx300 (.n rfl) rfl rfl (.t rfl) rfl (.t rfl) ?_
              refine s_storeo 0 U3 FOk.self (idx_inv hx300).2.2.2 (.n rfl) rfl rfl (.t rfl) (.t rfl) rfl rfl ?_
              cases ho
              exact s_nil (fun fr h s => And.intro rfl (Exists.intro [] (s.pick [0] ⟨rfl, rfl, rfl, rfl, rfl, trivial⟩ rfl (by decide))))
            · have ho := cnd0 ho hq298
              cases ho
              exact r_skip (fun fr h s => And.intro rfl (Exists.intro [] (s.pick [0] ⟨rfl, rfl, rfl, rfl, rfl, trivial⟩ rfl (by decide))))
        · have ho := cnd0 ho hq270
          cases ho
          exact r_exit (fun fr h s => And.intro rfl (Exists.intro [] (s.pick [0] ⟨rfl, rfl, rfl, rfl, trivial⟩ rfl (by decide))))
      · intro g303
        show ∀ fr h, St _ [(0, .val (rSlice (rInt .i64)) (l_0)), (1, .val rBool (through_1)), (5, .raw v3), (6, .val (rInt .i64) (s203.1))] [(v3, .row (rInt .i64) (t301))] fr h → _
        show SRun _ _ _ _ _ _
        refine r_region ?_
        refine s_move (.n rfl) rfl rfl (.t rfl) ?_
        refine s_ar (.n rfl) rfl rfl (.t rfl) (.i (by decide) (by decide)) .add ?_
        refine s_assign (.n rfl) rfl rfl (.t rfl) ?_
        cases ho
        exact s_nil (fun fr h s => And.intro rfl (Exists.intro [] (s.pick [0] ⟨rfl, rfl, rfl, rfl, trivial⟩ rfl (by decide))))
    · have ho := cnd0 ho hq205
      cases ho
      exact r_exit (fun fr h s => And.intro rfl (Exists.intro [] (s.pick [0] ⟨rfl, trivial⟩ rfl (by decide))))
  · intro g306
    show ∀ fr h, St _ [(5, .raw v3)] [(v3, .row (rInt .i64) (t304))] fr h → _
    show SRun _ _ _ _ _ _
    refine r_seq ?_
    refine r_region ?_
    refine s_move (.n rfl) rfl rfl (.t rfl) ?_
    refine s_assign (.n rfl) rfl rfl (.t rfl) ?_
    refine s_nilq rfl ?_
    cases ho
    exact r_ret (ret_of (.inr rfl) (.r 0 rfl rfl .n) (by decide))
theorem g_ref09_Proof_ok {p_0 : (List Int)} {p_1 : Bool} {out : ((List Int))} (ho : g_ref09_Proof p_0 p_1 = some out) : Fun ktab 17 [.val (rSlice (rInt .i64)) p_0, .val rBool p_1] [.row (rInt .i64) (out)] := by
  refine fun_of (F := Try.f17) (by rfl) (by rfl) (by rfl) (fun C hC => ?_)
  delta g_ref09_Proof at ho
  refine r_seq ?_
  refine r_region ?_
  refine s_st (st_nilrow (rInt .i64)) ?_
  refine s_assign (.n rfl) rfl rfl .nilr ?_
  refine s_nilq rfl ?_
  refine r_seq ?_
  refine r_region ?_
  refine s_move (.n rfl) rfl rfl (.t rfl) ?_
  refine s_len S22 (.n rfl) rfl rfl rfl rfl rfl (.t rfl) ?_
  obtain ⟨x2, hx2, ho⟩ := bnd ho
  refine s_mk S22 Y3 Z3 hx2 (.n rfl) rfl rfl (.t rfl) (.t rfl) ?_
  intro v3
  refine s_assign (.n rfl) rfl rfl (.t rfl) ?_
  refine s_nilq rfl ?_
  refine r_seq ?_
  refine r_region ?_
  refine s_assign (.n rfl) rfl rfl (.i (by decide) (by decide)) ?_
  refine s_nilq rfl ?_
  refine r_seq ?_
  refine r_seq ?_
  refine r_region ?_
  refine s_move (.n rfl) rfl rfl (.t rfl) ?_
  refine s_len S22 (.n rfl) rfl rfl rfl rfl rfl (.t rfl) ?_
  refine s_ar (.n rfl) rfl rfl (.t rfl) (.i (by decide) (by decide)) .sub ?_
  refine s_assign (.n rfl) rfl rfl (.t rfl) ?_
  refine s_nilq rfl ?_
  refine r_block ?_
  obtain ⟨t85, ht85, ho⟩ := bnd ho
  refine r_loop (σ := (Int × Int × (List Int))) (τ := (Int × (List Int))) (G := List AVal) (fun s g => ([(0, .val (rSlice (rInt .i64)) (p_0)), (1, .val rBool (p_1)), (5, .raw v3), (6, .val (rInt .i64) (s.1)), (7, .val (rInt .i64) (s.2.1))], [(v3, .row (rInt .i64) (s.2.2))])) (fun b => (.exit 0, fun g => ([(0, .val (rSlice (rInt .i64)) (p_0)), (1, .val rBool (p_1)), (5, .raw v3), (6, .val (rInt .i64) (b.1))], [(v3, .row (rInt .i64) (b.2))]))) _ [] ht85 (fun fr h s => s.pick [0] ⟨rfl, rfl, rfl, rfl, rfl, trivial⟩ rfl (by decide)) ?_ ?_ ?_
  · intro t
    exact (show (.exit 0 : AExit) ≠ .normal from fun e => by cases e)
  · clear ho
    intro s57 g58 r86 ho
    refine r_seq ?_
    refine r_seq ?_
    refine r_region ?_
    refine s_move (.n rfl) rfl rfl (.t rfl) ?_
    refine s_cmp (.n rfl) rfl rfl (.t rfl) (.i (by decide) (by decide)) .geq ?_
    refine s_nilq rfl ?_
    refine r_cond (.t rfl) (fun hq59 => ?_) (fun hq59 => ?_)
    · have ho := cnd1 ho hq59
      refine r_skipq rfl ?_
      refine r_seq ?_
      refine r_block ?_
      refine r_seq ?_
      refine r_region ?_
      refine s_move (.n rfl) rfl rfl (.t rfl) ?_
      refine s_move (.n rfl) rfl rfl (.t rfl) ?_
      obtain ⟨x60, hx60, ho⟩ := bnd ho
      refine s_idxo 0 S22 hx60 (.n rfl) rfl rfl (.t rfl) rfl (.t rfl) ?_
      refine s_storeo 0 U3 FOk.self (idx_inv hx60).2.2.2 (.n rfl) rfl rfl (.t rfl) (.i (by decide) (by decide)) rfl rfl ?_
      refine s_nilq rfl ?_
      refine r_seq ?_
      refine r_seq ?_
      refine r_region ?_
      refine s_move (.n rfl) rfl rfl (.t rfl) ?_
      refine s_ar (.n rfl) rfl rfl (.t rfl) (.i (by decide) (by decide)) .add ?_
      refine s_assign (.n rfl) rfl rfl (.t rfl) ?_
      refine s_nilq rfl ?_
      refine r_block ?_
      obtain ⟨t81, ht81, ho⟩ := bnd ho
      refine r_loop (σ := (Int × (List Int))) (τ := ((List Int))) (G := List AVal) (fun s g => ([(0, .val (rSlice (rInt .i64)) (p_0)), (1, .val rBool (p_1)), (5, .raw v3), (6, .val (rInt .i64) (s57.1)), (7, .val (rInt .i64) (s57.2.1)), (8, .val (rInt .i64) (s.1))], [(v3, .row (rInt .i64) (s.2))])) (fun b => (.exit 2, fun g => ([(0, .val (rSlice (rInt .i64)) (p_0)), (1, .val rBool (p_1)), (5, .raw v3), (6, .val (rInt .i64) (s57.1)), (7, .val (rInt .i64) (s57.2.1))], [(v3, .row (rInt .i64) (b))]))) _ [] ht81 (fun fr h s => s.pick [0] ⟨rfl, rfl, rfl, rfl, rfl, rfl, trivial⟩ rfl (by decide)) ?_ ?_ ?_
      · intro t
        exact (show (.exit 2 : AExit) ≠ .normal from fun e => by cases e)
      · clear ho
        intro s73 g74 r82 ho
        refine r_seq ?_
        refine r_seq ?_
        refine r_region ?_
        refine s_move (.n rfl) rfl rfl (.t rfl) ?_
        refine s_move (.n rfl) rfl rfl (.t rfl) ?_
        refine s_len S22 (.n rfl) rfl rfl rfl rfl rfl (.t rfl) ?_
        refine s_cmp (.n rfl) rfl rfl (.t rfl) (.t rfl) .lss ?_
        refine s_nilq rfl ?_
        refine r_cond (.t rfl) (fun hq75 => ?_) (fun hq75 => ?_)
        · have ho := cnd1 ho hq75
          refine r_skipq rfl ?_
          refine r_seq ?_
          refine r_block ?_
          refine r_seq ?_
          refine r_region ?_
          refine s_move (.n rfl) rfl rfl (.t rfl) ?_
          refine s_move (.n rfl) rfl rfl (.t rfl) ?_
          refine s_move (.n rfl) rfl rfl (.t rfl) ?_
          refine s_move (.n rfl) rfl rfl (.t rfl) ?_
          obtain ⟨y76, hy76, ho⟩ := bnd ho
          refine s_calll (g_ref09_InWay_ok hy76) (.v flat_bool .n) rfl (.n rfl) rfl rfl rfl .f (.c (.o (.t rfl)) (.c (.o (.t rfl)) (.c (.o (.t rfl)) (.c (.o (.t rfl)) .n)))) ?_
          show SOps _ _ _ _ _ _ _ _
          refine s_nilq rfl ?_
          refine r_cond (.t rfl) (fun hq77 => ?_) (fun hq77 => ?_)
          · have ho := cnd1 ho hq77
            refine r_draw [5, 9] (by kernel_rfl) ?_
            refine s_move (.n rfl) rfl rfl (.t rfl) ?_
            refine s_move (.n rfl) rfl rfl (.t rfl) ?_
            refine s_move (.n rfl) rfl rfl (.t rfl) ?_
            refine s_move (.n rfl) rfl rfl (.t rfl) ?_
            obtain ⟨x78, hx78, ho⟩ := bnd ho
            refine s_idxo 0 S22 hx78 (.n rfl) rfl rfl (.t rfl) rfl (.t rfl) ?_
            refine s_loado 0 (fun _ h => by cases h <;> rfl) U3 FOk.self (idx_inv hx78).2.2.2 (.n rfl) rfl rfl (.t rfl) rfl ?_
            refine s_move (.n rfl) rfl rfl (.t rfl) ?_
            refine s_move (.n rfl) rfl rfl (.t rfl) ?_
            obtain ⟨x79, hx79, ho⟩ := bnd ho
            refine s_idxo 0 S22 hx79 (.n rfl) rfl rfl (.t rfl) rfl (.t rfl) ?_
            refine s_loado 0 (fun _ h => by cases h <;> rfl) U3 FOk.self (idx_inv hx79).2.2.2 (.n rfl) rfl rfl (.t rfl) rfl ?_
            refine s_ar (.n rfl) rfl rfl (.i (by decide) (by decide)) (.t rfl) .add ?_
            refine s_max (.n rfl) rfl rfl rfl rfl (.t rfl) (.t rfl) ?_
            obtain ⟨x80, hx80, ho⟩ := bnd ho
            refine s_idxo 0 S22 hx80 (.n rfl) rfl rfl (.t rfl) rfl (.t rfl) ?_
            refine s_storeo 0 U3 FOk.self (idx_inv hx80).2.2.2 (.n rfl) rfl rfl (.t rfl) (.t rfl) rfl rfl ?_
            refine s_nilq rfl ?_
            refine r_region ?_
            refine s_move (.n rfl) rfl rfl (.t rfl) ?_
            refine s_ar (.n rfl) rfl rfl (.t rfl) (.i (by decide) (by decide)) .add ?_
            refine s_assign (.n rfl) rfl rfl (.t rfl) ?_
            cases ho
            exact s_nil (fun fr h s => And.intro rfl (Exists.intro [] (s.pick [0] ⟨rfl, rfl, rfl, rfl, rfl, rfl, trivial⟩ rfl (by decide))))
          · have ho := cnd0 ho hq77
            refine r_skipq rfl ?_
            refine r_region ?_
            refine s_move (.n rfl) rfl rfl (.t rfl) ?_
            refine s_ar (.n rfl) rfl rfl (.t rfl) (.i (by decide) (by decide)) .add ?_
            refine s_assign (.n rfl) rfl rfl (.t rfl) ?_
            cases ho
            exact s_nil (fun fr h s => And.intro rfl (Exists.intro [] (s.pick [0] ⟨rfl, rfl, rfl, rfl, rfl, rfl, trivial⟩ rfl (by decide))))
        · have ho := cnd0 ho hq75
          cases ho
          exact r_exit (fun fr h s => And.intro rfl (Exists.intro [] (s.pick [0] ⟨rfl, rfl, rfl, rfl, rfl, trivial⟩ rfl (by decide))))
      · intro g83
        show ∀ fr h, St _ [(0, .val (rSlice (rInt .i64)) (p_0)), (1, .val rBool (p_1)), (5, .raw v3), (6, .val (rInt .i64) (s57.1)), (7, .val (rInt .i64) (s57.2.1))] [(v3, .row (rInt .i64) (t81))] fr h → _
        show SRun _ _ _ _ _ _
        refine r_region ?_
        refine s_move (.n rfl) rfl rfl (.t rfl) ?_
        refine s_move (.n rfl) rfl rfl (.t rfl) ?_
        refine s_move (.n rfl) rfl rfl (.t rfl) ?_
        obtain ⟨x84, hx84, ho⟩ := bnd ho
        refine s_idxo 0 S22 hx84 (.n rfl) rfl rfl (.t rfl) rfl (.t rfl) ?_
        refine s_loado 0 (fun _ h => by cases h <;> rfl) U3 FOk.self (idx_inv hx84).2.2.2 (.n rfl) rfl rfl (.t rfl) rfl ?_
        refine s_max (.n rfl) rfl rfl rfl rfl (.t rfl) (.t rfl) ?_
        refine s_assign (.n rfl) rfl rfl (.t rfl) ?_
        refine s_nilq rfl ?_
        refine r_region ?_
        refine s_move (.n rfl) rfl rfl (.t rfl) ?_
        refine s_ar (.n rfl) rfl rfl (.t rfl) (.i (by decide) (by decide)) .sub ?_
        refine s_assign (.n rfl) rfl rfl (.t rfl) ?_
        cases ho
        exact s_nil (fun fr h s => And.intro rfl (Exists.intro [] (s.pick [0] ⟨rfl, rfl, rfl, rfl, rfl, trivial⟩ rfl (by decide))))
    · have ho := cnd0 ho hq59
      cases ho
      exact r_exit (fun fr h s => And.intro rfl (Exists.intro [] (s.pick [0] ⟨rfl, rfl, rfl, rfl, trivial⟩ rfl (by decide))))
  · intro g87
    show ∀ fr h, St _ [(0, .val (rSlice (rInt .i64)) (p_0)), (1, .val rBool (p_1)), (5, .raw v3), (6, .val (rInt .i64) (t85.1))] [(v3, .row (rInt .i64) (t85.2))] fr h → _
    show SRun _ _ _ _ _ _
    refine r_seq ?_
    refine r_region ?_
    refine s_st (st_nilrow (rInt .i64)) ?_
    refine s_assign (.n rfl) rfl rfl .nilr ?_
    refine s_nilq rfl ?_
    refine r_seq ?_
    refine r_seq ?_
    refine r_region ?_
    refine s_assign (.n rfl) rfl rfl (.i (by decide) (by decide)) ?_
    refine s_nilq rfl ?_
    refine r_block ?_
    obtain ⟨t137, ht137, ho⟩ := bnd ho
    refine r_loop (σ := (Int × (List Int) × Int)) (τ := ((List Int))) (G := List AVal) (fun s g => ([(0, .val (rSlice (rInt .i64)) (p_0)), (1, .val rBool (p_1)), (5, .raw v3), (6, .val (rInt .i64) (s.1)), (9, .raw ((gh g 0))), (10, .val (rInt .i64) (s.2.2))], [(v3, .row (rInt .i64) (t85.2)), ((gh g 0), .row (rInt .i64) (s.2.1))])) (fun b => (.exit 4, fun g => ([(9, .raw ((gh g 0)))], [((gh g 0), .row (rInt .i64) (b))]))) _ [.nilslice] ht137 (fun fr h s => s.pick [1, 0] ⟨rfl, rfl, rfl, rfl, rfl, rfl, trivial⟩ rfl (by decide)) ?_ ?_ ?_
    · intro t
      exact (show (.exit 4 : AExit) ≠ .normal from fun e => by cases e)
    · clear ho
      intro s109 g110 r138 ho
      refine r_seq ?_
      refine r_seq ?_
      refine r_region ?_
      refine s_move (.n rfl) rfl rfl (.t rfl) ?_
      refine s_move (.n rfl) rfl rfl (.t rfl) ?_
      refine s_len S22 (.n rfl) rfl rfl rfl rfl rfl (.t rfl) ?_
      refine s_cmp (.n rfl) rfl rfl (.t rfl) (.t rfl) .lss ?_
      refine s_nilq rfl ?_
      refine r_cond (.t rfl) (fun hq114 => ?_) (fun hq114 => ?_)
      · have ho := cnd1 ho hq114
        refine r_skipq rfl ?_
        refine r_seq ?_
        refine r_block ?_
        refine r_seq ?_
        refine r_region ?_
        refine s_move (.n rfl) rfl rfl (.t rfl) ?_
        refine s_move (.n rfl) rfl rfl (.t rfl) ?_
        obtain ⟨x120, hx120, ho⟩ := bnd ho
        refine s_idxo 0 S22 hx120 (.n rfl) rfl rfl (.t rfl) rfl (.t rfl) ?_
        refine s_loado 0 (fun _ h => by cases h <;> rfl) U3 FOk.self (idx_inv hx120).2.2.2 (.n rfl) rfl rfl (.t rfl) rfl ?_
        refine s_move (.n rfl) rfl rfl (.t rfl) ?_
        refine s_cmp (.n rfl) rfl rfl (.t rfl) (.t rfl) .eql ?_
        refine s_move (.n rfl) rfl rfl (.t rfl) ?_
        rcases Bool.eq_false_or_eq_true ((x120 == s109.1)) with hb121 | hb121
        · have ho := cnd1 ho hb121
          refine s_move (.g rfl rfl (gt1 hb121)) rfl rfl (.t rfl) ?_
          refine s_leno 1 S22 (.g rfl rfl (gt1 hb121)) rfl rfl rfl rfl rfl (.t rfl) rfl ?_
          refine s_cmp (.g rfl rfl (gt1 hb121)) rfl rfl (.t rfl) (.i (by decide) (by decide)) .eql ?_
          refine s_move (.g rfl rfl (gt1 hb121)) rfl rfl (.t rfl) ?_
          rcases Bool.eq_false_or_eq_true (((lenI s109.2.1) == 0)) with hb122 | hb122
          · have ho := cnd1 ho hb122
            refine s_skip (.g rfl rfl (gf1 hb122)) rfl ?_
            refine s_skip (.g rfl rfl (gf1 hb122)) rfl ?_
            refine s_skip (.g rfl rfl (gf1 hb122)) rfl ?_
            refine s_skip (.g rfl rfl (gf1 hb122)) rfl ?_
            refine s_skip (.g rfl rfl (gf1 hb122)) rfl ?_
            refine s_skip (.g rfl rfl (gf1 hb122)) rfl ?_
            refine s_skip (.g rfl rfl (gf1 hb122)) rfl ?_
            refine s_skip (.g rfl rfl (gf1 hb122)) rfl ?_
            refine s_skip (.g rfl rfl (gf1 hb122)) rfl ?_
            refine s_skip (.g rfl rfl (gf1 hb122)) rfl ?_
            refine s_pk1 hb122 (.g rfl rfl (gt1 hb121)) rfl rfl (.t rfl) .b ?_
            refine s_pk1 hb121 (.n rfl) rfl rfl (.t rfl) (.t rfl) ?_
            refine s_nilq rfl ?_
            refine r_cond (.t rfl) (fun _ => ?_) (fun hq => by cases hq)
            refine r_seq ?_
            refine r_region ?_
            refine s_move (.n rfl) rfl rfl (.t rfl) ?_
            refine s_move (.n rfl) rfl rfl (.t rfl) ?_
            refine s_bs (R := (rInt .i64)) S22 Y3 (.n rfl) rfl rfl (.c (.t rfl) .n) rfl (by decide) ?_
            obtain ⟨x124, hx124, ho⟩ := bnd ho
            refine s_app 1 S22 Y3 hx124 (.n rfl) rfl rfl rfl rfl rfl (.t rfl) rfl (.t rfl) rfl ?_
            intro v125
            refine s_assign (.n rfl) rfl rfl (.t rfl) ?_
            refine s_nilq rfl ?_
            refine r_region ?_
            refine s_move (.n rfl) rfl rfl (.t rfl) ?_
            refine s_ar (.n rfl) rfl rfl (.t rfl) (.i (by decide) (by decide)) .sub ?_
            refine s_assign (.n rfl) rfl rfl (.t rfl) ?_
            refine s_nilq rfl ?_
            refine r_region ?_
            refine s_move (.n rfl) rfl rfl (.t rfl) ?_
            refine s_ar (.n rfl) rfl rfl (.t rfl) (.i (by decide) (by decide)) .add ?_
            refine s_assign (.n rfl) rfl rfl (.t rfl) ?_
            cases ho
            exact s_nil (fun fr h s => And.intro rfl (Exists.intro [v125] (s.pick [1, 0] ⟨rfl, rfl, rfl, rfl, rfl, rfl, trivial⟩ rfl (by decide))))
          · have ho := cnd0 ho hb122
            refine s_move (.g rfl rfl (gf0 hb122)) rfl rfl (.t rfl) ?_
            refine s_move (.g rfl rfl (gf0 hb122)) rfl rfl (.t rfl) ?_
            refine s_move (.g rfl rfl (gf0 hb122)) rfl rfl (.t rfl) ?_
            refine s_move (.g rfl rfl (gf0 hb122)) rfl rfl (.t rfl) ?_
            refine s_leno 1 S22 (.g rfl rfl (gf0 hb122)) rfl rfl rfl rfl rfl (.t rfl) rfl ?_
            refine s_ar (.g rfl rfl (gf0 hb122)) rfl rfl (.t rfl) (.i (by decide) (by decide)) .sub ?_
            obtain ⟨x127, hx127, ho⟩ := bnd ho
            refine s_idxo 1 S22 hx127 (.g rfl rfl (gf0 hb122)) rfl rfl (.t rfl) rfl (.t rfl) ?_
            refine s_loado 1 (fun _ h => by cases h <;> rfl) U3 FOk.self (idx_inv hx127).2.2.2 (.g rfl rfl (gf0 hb122)) rfl rfl (.t rfl) rfl ?_
            refine s_move (.g rfl rfl (gf0 hb122)) rfl rfl (.t rfl) ?_
            obtain ⟨y128, hy128, ho⟩ := bnd ho
            refine s_calll (g_ref09_InWay_ok hy128) (.v flat_bool .n) rfl (.g rfl rfl (gf0 hb122)) rfl rfl rfl .f (.c (.o (.t rfl)) (.c (.o (.t rfl)) (.c (.o (.t rfl)) (.c (.o (.t rfl)) .n)))) ?_
            show SOps _ _ _ _ _ _ _ _
            refine s_pk0 hb122 (.g rfl rfl (gt1 hb121)) rfl rfl (.t rfl) (.t rfl) ?_
            refine s_pk1 hb121 (.n rfl) rfl rfl (.t rfl) (.t rfl) ?_
            refine s_nilq rfl ?_
            refine r_cond (.t rfl) (fun hq129 => ?_) (fun hq129 => ?_)
            · have ho := cnd1 ho hq129
              refine r_seq ?_
              refine r_region ?_
              refine s_move (.n rfl) rfl rfl (.t rfl) ?_
              refine s_move (.n rfl) rfl rfl (.t rfl) ?_
              refine s_bs (R := (rInt .i64)) S22 Y3 (.n rfl) rfl rfl (.c (.t rfl) .n) rfl (by decide) ?_
              obtain ⟨x130, hx130, ho⟩ := bnd ho
              refine s_app 1 S22 Y3 hx130 (.n rfl) rfl rfl rfl rfl rfl (.t rfl) rfl (.t rfl) rfl ?_
              intro v131
              refine s_assign (.n rfl) rfl rfl (.t rfl) ?_
              refine s_nilq rfl ?_
              refine r_region ?_
              refine s_move (.n rfl) rfl rfl (.t rfl) ?_
              refine s_ar (.n rfl) rfl rfl (.t rfl) (.i (by decide) (by decide)) .sub ?_
              refine s_assign (.n rfl) rfl rfl (.t rfl) ?_
              refine s_nilq rfl ?_
              refine r_region ?_
              refine s_move (.n rfl) rfl rfl (.t rfl) ?_
              refine s_ar (.n rfl) rfl rfl (.t rfl) (.i (by decide) (by decide)) .add ?_
              refine s_assign (.n rfl) rfl rfl (.t rfl) ?_
              cases ho
              exact s_nil (fun fr h s => And.intro rfl (Exists.intro [v131] (s.pick [1, 0] ⟨rfl, rfl, rfl, rfl, rfl, rfl, trivial⟩ rfl (by decide))))
            · have ho := cnd0 ho hq129
              refine r_skipq rfl ?_
              refine r_region ?_
              refine s_move (.n rfl) rfl rfl (.t rfl) ?_
              refine s_ar (.n rfl) rfl rfl (.t rfl) (.i (by decide) (by decide)) .add ?_
              refine s_assign (.n rfl) rfl rfl (.t rfl) ?_
              cases ho
              exact s_nil (fun fr h s => And.intro rfl (Exists.intro [(gh g110 0)] (s.pick [0, 1] ⟨rfl, rfl, rfl, rfl, rfl, rfl, trivial⟩ rfl (by decide))))
        · have ho := cnd0 ho hb121
          refine s_skip (.g rfl rfl (gt0 hb121)) rfl ?_
          refine s_skip (.g rfl rfl (gt0 hb121)) rfl ?_
          refine s_skip (.g rfl rfl (gt0 hb121)) rfl ?_
          refine s_skip (.g rfl rfl (gt0 hb121)) rfl ?_
          refine s_skip (.u rfl rfl rfl) rfl ?_
          refine s_skip (.u rfl rfl rfl) rfl ?_
          refine s_skip (.u rfl rfl rfl) rfl ?_
          refine s_skip (.u rfl rfl rfl) rfl ?_
          refine s_skip (.u rfl rfl rfl) rfl ?_
          refine s_skip (.u rfl rfl rfl) rfl ?_
          refine s_skip (.u rfl rfl rfl) rfl ?_
          refine s_skip (.u rfl rfl rfl) rfl ?_
          refine s_skip (.u rfl rfl rfl) rfl ?_
          refine s_skip (.u rfl rfl rfl) rfl ?_
          refine s_skip (.g rfl rfl (gt0 hb121)) rfl ?_
          refine s_pk0 hb121 (.n rfl) rfl rfl (.t rfl) .b ?_
          refine s_nilq rfl ?_
          refine r_cond (.t rfl) (fun hq => by cases hq) (fun _ => ?_)
          refine r_skipq rfl ?_
          refine r_region ?_
          refine s_move (.n rfl) rfl rfl (.t rfl) ?_
          refine s_ar (.n rfl) rfl rfl (.t rfl) (.i (by decide) (by decide)) .add ?_
          refine s_assign (.n rfl) rfl rfl (.t rfl) ?_
          cases ho
          exact s_nil (fun fr h s => And.intro rfl (Exists.intro [(gh g110 0)] (s.pick [0, 1] ⟨rfl, rfl, rfl, rfl, rfl, rfl, trivial⟩ rfl (by decide))))
      · have ho := cnd0 ho hq114
        cases ho
        exact r_exit (fun fr h s => And.intro rfl (Exists.intro [(gh g110 0)] (s.pick [1] ⟨rfl, trivial⟩ rfl (by decide))))
    · intro g139
      show ∀ fr h, St _ [(9, .raw ((gh g139 0)))] [((gh g139 0), .row (rInt .i64) (t137))] fr h → _
      show SRun _ _ _ _ _ _
      refine r_seq ?_
      refine r_region ?_
      refine s_move (.n rfl) rfl rfl (.t rfl) ?_
      refine s_assign (.n rfl) rfl rfl (.t rfl) ?_
      refine s_nilq rfl ?_
      cases ho
      exact r_ret (ret_of (.inr rfl) (.r 0 rfl rfl .n) (by decide))
theorem g_law09_DepotAssigns_ok {order_0 : (List Int)} {through_1 : Bool} {out : (Bool)} (ho : g_law09_DepotAssigns order_0 through_1 = some out) : Fun ktab 3 [.val (rSlice (rInt .i64)) order_0, .val rBool through_1] [.val rBool (out)] := by
  refine fun_of (F := Try.f3) (by rfl) (by rfl) (by rfl) (fun C hC => ?_)
  delta g_law09_DepotAssigns at ho
  refine r_seq ?_
  refine r_region ?_
  refine s_assign (.n rfl) rfl rfl .b ?_
  refine s_nilq rfl ?_
  refine r_seq ?_
  refine r_seq ?_
  obtain ⟨c3, hc3, ho⟩ := bnd ho
  refine r_cut (τ := (Bool)) (G := Unit) (fun t => (.normal, fun _ => ([(0, .val (rSlice (rInt .i64)) (order_0)), (1, .val rBool (through_1)), (20, .val rBool (t))], []))) (t := c3) ?_ ?_
  · have ho := hc3
    clear hc3
    refine r_region ?_
    refine s_move (.n rfl) rfl rfl (.t rfl) ?_
    refine s_len S22 (.n rfl) rfl rfl rfl rfl rfl (.t rfl) ?_
    refine s_cmp (.n rfl) rfl rfl (.t rfl) (.i (by decide) (by decide)) .gtr ?_
    refine s_move (.n rfl) rfl rfl (.t rfl) ?_
    rcases Bool.eq_false_or_eq_true ((decide ((lenI order_0) > 30))) with hb4 | hb4
    · have ho := cnd1 ho hb4
      refine s_move (.g rfl rfl (gt1 hb4)) rfl rfl (.t rfl) ?_
      refine s_len S22 (.g rfl rfl (gt1 hb4)) rfl rfl rfl rfl rfl (.t rfl) ?_
      refine s_cmp (.g rfl rfl (gt1 hb4)) rfl rfl (.t rfl) (.i (by decide) (by decide)) .leq ?_
      refine s_pk1 hb4 (.n rfl) rfl rfl (.t rfl) (.t rfl) ?_
      refine s_move (.n rfl) rfl rfl (.t rfl) ?_
      rcases Bool.eq_false_or_eq_true ((decide ((lenI order_0) ≤ 190))) with hb5 | hb5
      · have ho := cnd1 ho hb5
        refine s_skip (.g rfl rfl (gf1 hb5)) rfl ?_
        refine s_skip (.g rfl rfl (gf1 hb5)) rfl ?_
        refine s_skip (.g rfl rfl (gf1 hb5)) rfl ?_
        refine s_pk1 hb5 (.n rfl) rfl rfl (.t rfl) .b ?_
        cases ho
        exact s_nil (fun fr h s => And.intro rfl (Exists.intro () (s.pick [] ⟨rfl, rfl, rfl, trivial⟩ rfl (by decide))))
      · have ho := cnd0 ho hb5
        refine s_move (.g rfl rfl (gf0 hb5)) rfl rfl (.t rfl) ?_
        refine s_len S22 (.g rfl rfl (gf0 hb5)) rfl rfl rfl rfl rfl (.t rfl) ?_
        refine s_cmp (.g rfl rfl (gf0 hb5)) rfl rfl (.t rfl) (.i (by decide) (by decide)) .gtr ?_
        refine s_pk0 hb5 (.n rfl) rfl rfl (.t rfl) (.t rfl) ?_
        cases ho
        exact s_nil (fun fr h s => And.intro rfl (Exists.intro () (s.pick [] ⟨rfl, rfl, rfl, trivial⟩ rfl (by decide))))
    · have ho := cnd0 ho hb4
      refine s_skip (.g rfl rfl (gt0 hb4)) rfl ?_
      refine s_skip (.g rfl rfl (gt0 hb4)) rfl ?_
      refine s_skip (.g rfl rfl (gt0 hb4)) rfl ?_
      refine s_pk0 hb4 (.n rfl) rfl rfl (.t rfl) .b ?_
      refine s_move (.n rfl) rfl rfl (.t rfl) ?_
      refine s_move (.g rfl rfl rfl) rfl rfl (.t rfl) ?_
      refine s_len S22 (.g rfl rfl rfl) rfl rfl rfl rfl rfl (.t rfl) ?_
      refine s_cmp (.g rfl rfl rfl) rfl rfl (.t rfl) (.i (by decide) (by decide)) .gtr ?_
      refine s_pick0 (.n rfl) rfl rfl (.t rfl) (.t rfl) ?_
      cases ho
      exact s_nil (fun fr h s => And.intro rfl (Exists.intro () (s.pick [] ⟨rfl, rfl, rfl, trivial⟩ rfl (by decide))))
  · intro _
    show SRun _ _ _ _ _ _
    refine r_cond (.t rfl) (fun hq6 => ?_) (fun hq6 => ?_)
    · have ho := cnd1 ho hq6
      refine r_seq ?_
      refine r_region ?_
      refine s_const (v := .bool true) (e := .val rBool true) rfl known_te (.n rfl) rfl rfl rfl .f rfl ?_
      refine s_assign (.n rfl) rfl rfl (.t rfl) ?_
      refine s_nilq rfl ?_
      cases ho
      exact r_ret (ret_of (.inr rfl) (.v rfl .n) (by decide))
    · have ho := cnd0 ho hq6
      refine r_skipq rfl ?_
      refine r_seq ?_
      refine r_region ?_
      refine s_move (.n rfl) rfl rfl (.t rfl) ?_
      refine s_move (.n rfl) rfl rfl (.t rfl) ?_
      obtain ⟨y7, hy7, ho⟩ := bnd ho
      refine s_call (pre := []) (post := []) (vs := []) (g_depot_Assign_ok hy7) rfl (.n rfl) rfl rfl rfl .f (.c (.t rfl) (.c (.t rfl) .n)) ?_
      intro v8 v10
      show SOps _ _ _ _ _ _ _ _
      refine s_move (.n rfl) rfl rfl (.t rfl) ?_
      refine s_ext rfl (.n rfl) rfl rfl (.t rfl) ?_
      refine s_ext rfl (.n rfl) rfl rfl (.t rfl) ?_
      refine s_ext rfl (.n rfl) rfl rfl (.t rfl) ?_
      refine s_assign (.n rfl) rfl rfl (.t rfl) ?_
      refine s_assign (.n rfl) rfl rfl (.t rfl) ?_
      refine s_assign (.n rfl) rfl rfl (.t rfl) ?_
      refine s_nilq rfl ?_
      refine r_seq ?_
      refine r_seq ?_
      refine r_region ?_
      refine s_move (.n rfl) rfl rfl (.t rfl) ?_
      obtain ⟨y12, hy12, ho⟩ := bnd ho
      refine s_calll (g_ref09_Order_ok hy12) (.v flat_bool .n) rfl (.n rfl) rfl rfl rfl .f (.c (.o (.t rfl)) .n) ?_
      show SOps _ _ _ _ _ _ _ _
      refine s_not (.n rfl) rfl rfl (.t rfl) ?_
      refine s_nilq rfl ?_
      refine r_cond (.t rfl) (fun hq13 => ?_) (fun hq13 => ?_)
      · have ho := cnd1 ho hq13
        refine r_seq ?_
        obtain ⟨c16, hc16, ho⟩ := bnd ho
        refine r_cut (τ := (Bool)) (G := Unit) (fun t => (.normal, fun _ => ([(4, .val rBool (t))], [(v8, .row (rInt .i64) (y7.1)), (v10, .row (rInt .i64) (y7.2.1))]))) (t := c16) ?_ ?_
        · have ho := hc16
          clear hc16
          refine r_region ?_
          refine s_move (.n rfl) rfl rfl (.t rfl) ?_
          refine s_cmp (.n rfl) rfl rfl (.t rfl) (.i (by decide) (by decide)) .eql ?_
          refine s_move (.n rfl) rfl rfl (.t rfl) ?_
          rcases Bool.eq_false_or_eq_true ((y7.2.2 == 2)) with hb17 | hb17
          · have ho := cnd1 ho hb17
            refine s_move (.g rfl rfl (gt1 hb17)) rfl rfl (.t rfl) ?_
            refine s_leno 0 S22 (.g rfl rfl (gt1 hb17)) rfl rfl rfl rfl rfl (.t rfl) rfl ?_
            refine s_move (.g rfl rfl (gt1 hb17)) rfl rfl (.t rfl) ?_
            refine s_leno 1 S22 (.g rfl rfl (gt1 hb17)) rfl rfl rfl rfl rfl (.t rfl) rfl ?_
            refine s_ar (.g rfl rfl (gt1 hb17)) rfl rfl (.t rfl) (.t rfl) .add ?_
            refine s_cmp (.g rfl rfl (gt1 hb17)) rfl rfl (.t rfl) (.i (by decide) (by decide)) .eql ?_
            refine s_pk1 hb17 (.n rfl) rfl rfl (.t rfl) (.t rfl) ?_
            refine s_move (.n rfl) rfl rfl (.t rfl) ?_
            rcases Bool.eq_false_or_eq_true (((w64 ((lenI y7.1) + (lenI y7.2.1))) == 0)) with hb18 | hb18
            · have ho := cnd1 ho hb18
              refine s_const (v := .bool true) (e := .val rBool true) rfl known_te (.g rfl rfl (gt1 hb18)) rfl rfl rfl .f rfl ?_
              refine s_pk1 hb18 (.n rfl) rfl rfl (.t rfl) (.t rfl) ?_
              refine s_assign (.n rfl) rfl rfl (.t rfl) ?_
              cases ho
              exact s_nil (fun fr h s => And.intro rfl (Exists.intro () (s.pick [0, 1] ⟨rfl, trivial⟩ rfl (by decide))))
            · have ho := cnd0 ho hb18
              refine s_skip (.g rfl rfl (gt0 hb18)) rfl ?_
              refine s_pk0 hb18 (.n rfl) rfl rfl (.t rfl) .b ?_
              refine s_assign (.n rfl) rfl rfl (.t rfl) ?_
              cases ho
              exact s_nil (fun fr h s => And.intro rfl (Exists.intro () (s.pick [0, 1] ⟨rfl, trivial⟩ rfl (by decide))))
          · have ho := cnd0 ho hb17
            refine s_skip (.g rfl rfl (gt0 hb17)) rfl ?_
            refine s_skip (.g rfl rfl (gt0 hb17)) rfl ?_
            refine s_skip (.g rfl rfl (gt0 hb17)) rfl ?_
            refine s_skip (.g rfl rfl (gt0 hb17)) rfl ?_
            refine s_skip (.g rfl rfl (gt0 hb17)) rfl ?_
            refine s_skip (.g rfl rfl (gt0 hb17)) rfl ?_
            refine s_pk0 hb17 (.n rfl) rfl rfl (.t rfl) .b ?_
            refine s_move (.n rfl) rfl rfl (.t rfl) ?_
            refine s_skip (.g rfl rfl rfl) rfl ?_
            refine s_pick0 (.n rfl) rfl rfl (.t rfl) .b ?_
            refine s_assign (.n rfl) rfl rfl (.t rfl) ?_
            cases ho
            exact s_nil (fun fr h s => And.intro rfl (Exists.intro () (s.pick [0, 1] ⟨rfl, trivial⟩ rfl (by decide))))
        · intro _
          show SRun _ _ _ _ _ _
          cases ho
          exact r_ret (ret_of (.inr rfl) (.v rfl .n) (by decide))
      · have ho := cnd0 ho hq13
        refine r_skipq rfl ?_
        refine r_seq ?_
        refine r_region ?_
        refine s_move (.n rfl) rfl rfl (.t rfl) ?_
        refine s_cmp (.n rfl) rfl rfl (.t rfl) (.i (by decide) (by decide)) .eql ?_
        refine s_move (.n rfl) rfl rfl (.t rfl) ?_
        rcases Bool.eq_false_or_eq_true ((y7.2.2 == 0)) with hb30 | hb30
        · have ho := cnd1 ho hb30
          refine s_move (.g rfl rfl (gt1 hb30)) rfl rfl (.t rfl) ?_
          refine s_move (.g rfl rfl (gt1 hb30)) rfl rfl (.t rfl) ?_
          refine s_move (.g rfl rfl (gt1 hb30)) rfl rfl (.t rfl) ?_
          obtain ⟨y31, hy31, ho⟩ := bnd ho
          refine s_call (pre := []) (post := []) (vs := []) (g_ref09_Assign_ok hy31) rfl (.g rfl rfl (gt1 hb30)) rfl rfl rfl .f (.c (.t rfl) (.c (.t rfl) .n)) ?_
          intro v32
          show SOps _ _ _ _ _ _ _ _
          obtain ⟨y34, hy34, ho⟩ := bnd ho
          refine s_calll (g_ref09_Same_ok hy34) (.v flat_bool .n) rfl (.g rfl rfl (gt1 hb30)) rfl rfl rfl .f (.c (.r 1 (.t rfl) rfl) (.c (.r 0 (.t rfl) rfl) .n)) ?_
          show SOps _ _ _ _ _ _ _ _
          refine s_pk1 hb30 (.n rfl) rfl rfl (.t rfl) (.t rfl) ?_
          refine s_move (.n rfl) rfl rfl (.t rfl) ?_
          rcases Bool.eq_false_or_eq_true (y34) with hb35 | hb35
          · have ho := cnd1 ho hb35
            refine s_move (.g rfl rfl (gt1 hb35)) rfl rfl (.t rfl) ?_
            refine s_move (.g rfl rfl (gt1 hb35)) rfl rfl (.t rfl) ?_
            refine s_move (.g rfl rfl (gt1 hb35)) rfl rfl (.t rfl) ?_
            obtain ⟨y36, hy36, ho⟩ := bnd ho
            refine s_call (pre := []) (post := []) (vs := []) (g_ref09_Proof_ok hy36) rfl (.g rfl rfl (gt1 hb35)) rfl rfl rfl .f (.c (.t rfl) (.c (.t rfl) .n)) ?_
            intro v37
            show SOps _ _ _ _ _ _ _ _
            obtain ⟨y39, hy39, ho⟩ := bnd ho
            refine s_calll (g_ref09_Same_ok hy39) (.v flat_bool .n) rfl (.g rfl rfl (gt1 hb35)) rfl rfl rfl .f (.c (.r 3 (.t rfl) rfl) (.c (.r 0 (.t rfl) rfl) .n)) ?_
            show SOps _ _ _ _ _ _ _ _
            refine s_pk1 hb35 (.n rfl) rfl rfl (.t rfl) (.t rfl) ?_
            refine s_move (.n rfl) rfl rfl (.t rfl) ?_
            rcases Bool.eq_false_or_eq_true (y39) with hb40 | hb40
            · have ho := cnd1 ho hb40
              refine s_const (v := .bool true) (e := .val rBool true) rfl known_te (.g rfl rfl (gt1 hb40)) rfl rfl rfl .f rfl ?_
              refine s_pk1 hb40 (.n rfl) rfl rfl (.t rfl) (.t rfl) ?_
              refine s_assign (.n rfl) rfl rfl (.t rfl) ?_
              refine s_nilq rfl ?_
              cases ho
              exact r_ret (ret_of (.inr rfl) (.v rfl .n) (by decide))
            · have ho := cnd0 ho hb40
              refine s_skip (.g rfl rfl (gt0 hb40)) rfl ?_
              refine s_pk0 hb40 (.n rfl) rfl rfl (.t rfl) .b ?_
              refine s_assign (.n rfl) rfl rfl (.t rfl) ?_
              refine s_nilq rfl ?_
              cases ho
              exact r_ret (ret_of (.inr rfl) (.v rfl .n) (by decide))
          · have ho := cnd0 ho hb35
            refine s_skip (.g rfl rfl (gt0 hb35)) rfl ?_
            refine s_skip (.g rfl rfl (gt0 hb35)) rfl ?_
            refine s_skip (.g rfl rfl (gt0 hb35)) rfl ?_
            refine s_skip (.g rfl rfl (gt0 hb35)) rfl ?_
            refine s_skip (.g rfl rfl (gt0 hb35)) rfl ?_
            refine s_pk0 hb35 (.n rfl) rfl rfl (.t rfl) .b ?_
            refine s_move (.n rfl) rfl rfl (.t rfl) ?_
            refine s_skip (.g rfl rfl rfl) rfl ?_
            refine s_pick0 (.n rfl) rfl rfl (.t rfl) .b ?_
            refine s_assign (.n rfl) rfl rfl (.t rfl) ?_
            refine s_nilq rfl ?_
            cases ho
            exact r_ret (ret_of (.inr rfl) (.v rfl .n) (by decide))
        · have ho := cnd0 ho hb30
          refine s_skip (.g rfl rfl (gt0 hb30)) rfl ?_
          refine s_skip (.g rfl rfl (gt0 hb30)) rfl ?_
          refine s_skip (.g rfl rfl (gt0 hb30)) rfl ?_
          refine s_skip (.g rfl rfl (gt0 hb30)) rfl ?_
          refine s_skip (.g rfl rfl (gt0 hb30)) rfl ?_
          refine s_pk0 hb30 (.n rfl) rfl rfl (.t rfl) .b ?_
          refine s_move (.n rfl) rfl rfl (.t rfl) ?_
          refine s_skip (.g rfl rfl rfl) rfl ?_
          refine s_skip (.g rfl rfl rfl) rfl ?_
          refine s_skip (.g rfl rfl rfl) rfl ?_
          refine s_skip (.g rfl rfl rfl) rfl ?_
          refine s_skip (.g rfl rfl rfl) rfl ?_
          refine s_pick0 (.n rfl) rfl rfl (.t rfl) .b ?_
          refine s_move (.n rfl) rfl rfl (.t rfl) ?_
          refine s_skip (.g rfl rfl rfl) rfl ?_
          refine s_pick0 (.n rfl) rfl rfl (.t rfl) .b ?_
          refine s_assign (.n rfl) rfl rfl (.t rfl) ?_
          refine s_nilq rfl ?_
          cases ho
          exact r_ret (ret_of (.inr rfl) (.v rfl .n) (by decide))
end Go.Ai.TabYtpiblfbidgcjaaa
