/- Written by program: walks through functions. -/
import Derived.Test.YtpiblfbidgcjaaaM4
namespace Go.Ai.TabYtpiblfbidgcjaaa
open Go Go.Ai Go.Ai.Sx Go.Proofs
attribute [local irreducible] SOps
set_option maxRecDepth 100000
theorem g_depot_within_ok {n_0 : Int} {low_1 : Int} {high_2 : Int} {out : (Bool)} (ho : g_depot_within n_0 low_1 high_2 = some out) : Fun ktab 56 [.val (rInt .i64) n_0, .val (rInt .i64) low_1, .val (rInt .i64) high_2] [.val rBool (out)] := by
  refine fun_of (F := Try.f56) (by rfl) (by rfl) (by rfl) (fun C hC => ?_)
  delta g_depot_within at ho
  refine r_seq ?_
  refine r_region ?_
  refine s_assign (.n rfl) rfl rfl .b ?_
  refine s_nilq rfl ?_
  refine r_seq ?_
  obtain ⟨c2, hc2, ho⟩ := bnd ho
  refine r_cut (τ := (Bool)) (G := Unit) (fun t => (.normal, fun _ => ([(6, .val rBool (t))], []))) (t := c2) ?_ ?_
  · have ho := hc2
    clear hc2
    refine r_region ?_
    refine s_move (.n rfl) rfl rfl (.t rfl) ?_
    refine s_move (.n rfl) rfl rfl (.t rfl) ?_
    refine s_cmp (.n rfl) rfl rfl (.t rfl) (.t rfl) .geq ?_
    refine s_move (.n rfl) rfl rfl (.t rfl) ?_
    rcases Bool.eq_false_or_eq_true ((decide (n_0 ≥ low_1))) with hb3 | hb3
    · have ho := cnd1 ho hb3
      refine s_move (.g rfl rfl (gt1 hb3)) rfl rfl (.t rfl) ?_
      refine s_move (.g rfl rfl (gt1 hb3)) rfl rfl (.t rfl) ?_
      refine s_cmp (.g rfl rfl (gt1 hb3)) rfl rfl (.t rfl) (.t rfl) .leq ?_
      refine s_pk1 hb3 (.n rfl) rfl rfl (.t rfl) (.t rfl) ?_
      refine s_assign (.n rfl) rfl rfl (.t rfl) ?_
      cases ho
      exact s_nil (fun fr h s => And.intro rfl (Exists.intro () (s.pick [] ⟨rfl, trivial⟩ rfl (by decide))))
    · have ho := cnd0 ho hb3
      refine s_skip (.g rfl rfl (gt0 hb3)) rfl ?_
      refine s_skip (.g rfl rfl (gt0 hb3)) rfl ?_
      refine s_skip (.g rfl rfl (gt0 hb3)) rfl ?_
      refine s_pk0 hb3 (.n rfl) rfl rfl (.t rfl) .b ?_
      refine s_assign (.n rfl) rfl rfl (.t rfl) ?_
      cases ho
      exact s_nil (fun fr h s => And.intro rfl (Exists.intro () (s.pick [] ⟨rfl, trivial⟩ rfl (by decide))))
  · intro _
    show SRun _ _ _ _ _ _
    cases ho
    exact r_ret (ret_of (.inr rfl) (.v rfl .n) (by decide))
theorem g_depot_permutation_ok {l_0 : (List Int)} {out : (Bool)} (ho : g_depot_permutation l_0 = some out) : Fun ktab 36 [.val (rSlice (rInt .i64)) l_0] [.val rBool (out)] := by
  refine fun_of (F := Try.f36) (by rfl) (by rfl) (by rfl) (fun C hC => ?_)
  delta g_depot_permutation at ho
  refine r_seq ?_
  refine r_region ?_
  refine s_assign (.n rfl) rfl rfl .b ?_
  refine s_nilq rfl ?_
  refine r_seq ?_
  refine r_region ?_
  refine s_move (.n rfl) rfl rfl (.t rfl) ?_
  refine s_len S22 (.n rfl) rfl rfl rfl rfl rfl (.t rfl) ?_
  obtain ⟨x1, hx1, ho⟩ := bnd ho
  refine s_mk S84 Y4 Z4 hx1 (.n rfl) rfl rfl (.t rfl) (.t rfl) ?_
  intro v2
  refine s_assign (.n rfl) rfl rfl (.t rfl) ?_
  refine s_nilq rfl ?_
  refine r_seq ?_
  refine r_seq ?_
  refine r_region ?_
  refine s_move (.n rfl) rfl rfl (.t rfl) ?_
  refine s_len S22 (.n rfl) rfl rfl rfl rfl rfl (.t rfl) ?_
  refine s_move (.n rfl) rfl rfl (.i (by decide) (by decide)) ?_
  refine s_nilq rfl ?_
  refine r_block ?_
  obtain ⟨t39, ht39, ho⟩ := bnd ho
  refine r_loop (σ := (Int × (List Bool))) (τ := ((List Bool)) ⊕ (Bool × (List Bool))) (G := List AVal) (fun s g => ([(0, .val (rSlice (rInt .i64)) (l_0)), (3, .raw v2), (9, .val (rSlice (rInt .i64)) (l_0)), (10, .val (rInt .i64) ((lenI l_0))), (11, .val (rInt .i64) (s.1))], [(v2, .row rBool (s.2))])) (altX (fun b => (.exit 0, fun g => ([], []))) (fun b => (.ret, fun g => ([(2, .val rBool (b.1))], [])))) _ [] ht39 (fun fr h s => s.pick [0] ⟨rfl, rfl, rfl, rfl, rfl, trivial⟩ rfl (by decide)) ?_ ?_ ?_
  · intro t
    rcases t with t | t
    · exact (show (.exit 0 : AExit) ≠ .normal from fun e => by cases e)
    · exact (show (.ret : AExit) ≠ .normal from fun e => by cases e)
  · clear ho
    intro s26 g27 r40 ho
    refine r_seq ?_
    refine r_region ?_
    refine s_cmp (.n rfl) rfl rfl (.t rfl) (.t rfl) .lss ?_
    refine s_nilq rfl ?_
    refine r_seq ?_
    refine r_cond (.t rfl) (fun hq28 => ?_) (fun hq28 => ?_)
    · have ho := cnd1 ho hq28
      refine r_skipq rfl ?_
      refine r_seq ?_
      refine r_block ?_
      refine r_seq ?_
      refine r_region ?_
      obtain ⟨x29, hx29, ho⟩ := bnd ho
      refine s_idx S22 hx29 (.n rfl) rfl rfl (.t rfl) (.t rfl) ?_
      refine s_load U3 (.n rfl) rfl rfl (.t rfl) ?_
      refine s_assign (.n rfl) rfl rfl (.t rfl) ?_
      refine s_nilq rfl ?_
      refine r_seq ?_
      refine r_seq ?_
      refine r_region ?_
      refine s_move (.n rfl) rfl rfl (.t rfl) ?_
      refine s_move (.n rfl) rfl rfl (.t rfl) ?_
      refine s_len S22 (.n rfl) rfl rfl rfl rfl rfl (.t rfl) ?_
      refine s_ar (.n rfl) rfl rfl (.t rfl) (.i (by decide) (by decide)) .sub ?_
      obtain ⟨y33, hy33, ho⟩ := bnd ho
      refine s_calll (g_depot_within_ok hy33) (.v flat_bool .n) rfl (.n rfl) rfl rfl rfl .f (.c (.o (.t rfl)) (.c (.o (.i (by decide) (by decide))) (.c (.o (.t rfl)) .n))) ?_
      show SOps _ _ _ _ _ _ _ _
      refine s_not (.n rfl) rfl rfl (.t rfl) ?_
      refine s_move (.n rfl) rfl rfl (.t rfl) ?_
      rcases Bool.eq_false_or_eq_true ((!y33)) with hb34 | hb34
      · have ho := cnd1 ho hb34
        refine s_skip (.g rfl rfl (gf1 hb34)) rfl ?_
        refine s_skip (.g rfl rfl (gf1 hb34)) rfl ?_
        refine s_skip (.g rfl rfl (gf1 hb34)) rfl ?_
        refine s_skip (.g rfl rfl (gf1 hb34)) rfl ?_
        refine s_pk1 hb34 (.n rfl) rfl rfl (.t rfl) .b ?_
        refine s_nilq rfl ?_
        refine r_cond (.t rfl) (fun _ => ?_) (fun hq => by cases hq)
        refine r_seq ?_
        refine r_region ?_
        refine s_assign (.n rfl) rfl rfl .b ?_
        refine s_nilq rfl ?_
        cases ho
        exact r_ret (fun fr h s => And.intro rfl (Exists.intro [] (s.pick [] ⟨rfl, trivial⟩ rfl (by decide))))
      · have ho := cnd0 ho hb34
        refine s_move (.g rfl rfl (gf0 hb34)) rfl rfl (.t rfl) ?_
        refine s_move (.g rfl rfl (gf0 hb34)) rfl rfl (.t rfl) ?_
        obtain ⟨x36, hx36, ho⟩ := bnd ho
        refine s_idxo 0 S84 hx36 (.g rfl rfl (gf0 hb34)) rfl rfl (.t rfl) rfl (.t rfl) ?_
        refine s_loado 0 (fun _ h => by cases h <;> rfl) U4 FOk.self (idx_inv hx36).2.2.2 (.g rfl rfl (gf0 hb34)) rfl rfl (.t rfl) rfl ?_
        refine s_pk0 hb34 (.n rfl) rfl rfl (.t rfl) (.t rfl) ?_
        refine s_nilq rfl ?_
        refine r_cond (.t rfl) (fun hq37 => ?_) (fun hq37 => ?_)
        · have ho := cnd1 ho hq37
          refine r_seq ?_
          refine r_region ?_
          refine s_assign (.n rfl) rfl rfl .b ?_
          refine s_nilq rfl ?_
          cases ho
          exact r_ret (fun fr h s => And.intro rfl (Exists.intro [] (s.pick [] ⟨rfl, trivial⟩ rfl (by decide))))
        · have ho := cnd0 ho hq37
          refine r_skipq rfl ?_
          refine r_region ?_
          refine s_move (.n rfl) rfl rfl (.t rfl) ?_
          refine s_move (.n rfl) rfl rfl (.t rfl) ?_
          obtain ⟨x38, hx38, ho⟩ := bnd ho
          refine s_idxo 0 S84 hx38 (.n rfl) rfl rfl (.t rfl) rfl (.t rfl) ?_
          refine s_storeo 0 U4 FOk.self (idx_inv hx38).2.2.2 (.n rfl) rfl rfl (.t rfl) .b rfl rfl ?_
          refine s_nilq rfl ?_
          refine r_region ?_
          refine s_ar (.n rfl) rfl rfl (.t rfl) (.i (by decide) (by decide)) .add ?_
          refine s_move (.n rfl) rfl rfl (.t rfl) ?_
          cases ho
          exact s_nil (fun fr h s => And.intro rfl (Exists.intro [] (s.pick [0] ⟨rfl, rfl, rfl, rfl, rfl, trivial⟩ rfl (by decide))))
    · have ho := cnd0 ho hq28
      cases ho
      exact r_exit (fun fr h s => And.intro rfl (Exists.intro [] (s.pick [] trivial rfl (by decide))))
  · clear ht39
    rcases t39 with b41 | b42
    · have ho := alt_l ho
      intro g43
      show ∀ fr h, St _ [] [] fr h → _
      show SRun _ _ _ _ _ _
      refine r_seq ?_
      refine r_region ?_
      refine s_assign (.n rfl) rfl rfl .b ?_
      refine s_nilq rfl ?_
      cases ho
      exact r_ret (ret_of (.inr rfl) (.v rfl .n) (by decide))
    · have ho := alt_r ho
      intro g44
      show ∀ fr h, St _ [(2, .val rBool (b42.1))] [] fr h → _
      cases ho
      exact id (ret_of (.inr rfl) (.v rfl .n) (by decide))
theorem g_depot_night_valid_ok {p_0 : depot_night} {out : (Bool)} (ho : g_depot_night_valid p_0 = some out) : Fun ktab 42 [.val (rPtr rdepot_night) p_0] [.val rBool (out)] := by
  refine fun_of (F := Try.f42) (by rfl) (by rfl) (by rfl) (fun C hC => ?_)
  delta g_depot_night_valid at ho
  refine r_seq ?_
  refine r_region ?_
  refine s_assign (.n rfl) rfl rfl .b ?_
  refine s_nilq rfl ?_
  refine r_seq ?_
  refine r_seq ?_
  obtain ⟨c4, hc4, ho⟩ := bnd ho
  refine r_cut (τ := (Bool)) (G := Unit) (fun t => (.normal, fun _ => ([(0, .val (rPtr rdepot_night) (p_0)), (36, .val rBool (t))], []))) (t := c4) ?_ ?_
  · have ho := hc4
    clear hc4
    refine r_draw [] (by kernel_rfl) ?_
    refine s_move (.n rfl) rfl rfl (.t rfl) ?_
    refine s_nilck (.n rfl) rfl rfl (.t rfl) ?_
    refine s_fa F89_0 fk_depot_night_0 (by decide) (.n rfl) rfl rfl (.t rfl) ?_
    refine s_load U31 (.n rfl) rfl rfl (.t rfl) ?_
    refine s_len S31 (.n rfl) rfl rfl rfl rfl rfl (.t rfl) ?_
    obtain ⟨y5, hy5, ho⟩ := bnd ho
    refine s_calll (g_depot_within_ok hy5) (.v flat_bool .n) rfl (.n rfl) rfl rfl rfl .f (.c (.o (.t rfl)) (.c (.o (.i (by decide) (by decide))) (.c (.o (.i (by decide) (by decide))) .n))) ?_
    show SOps _ _ _ _ _ _ _ _
    refine s_not (.n rfl) rfl rfl (.t rfl) ?_
    refine s_move (.n rfl) rfl rfl (.t rfl) ?_
    rcases Bool.eq_false_or_eq_true ((!y5)) with hb6 | hb6
    · have ho := cnd1 ho hb6
      refine s_skip (.g rfl rfl (gf1 hb6)) rfl ?_
      refine s_skip (.g rfl rfl (gf1 hb6)) rfl ?_
      refine s_skip (.g rfl rfl (gf1 hb6)) rfl ?_
      refine s_skip (.g rfl rfl (gf1 hb6)) rfl ?_
      refine s_skip (.g rfl rfl (gf1 hb6)) rfl ?_
      refine s_skip (.g rfl rfl (gf1 hb6)) rfl ?_
      refine s_skip (.g rfl rfl (gf1 hb6)) rfl ?_
      refine s_skip (.g rfl rfl (gf1 hb6)) rfl ?_
      refine s_skip (.g rfl rfl (gf1 hb6)) rfl ?_
      refine s_skip (.g rfl rfl (gf1 hb6)) rfl ?_
      refine s_skip (.g rfl rfl (gf1 hb6)) rfl ?_
      refine s_pk1 hb6 (.n rfl) rfl rfl (.t rfl) .b ?_
      refine s_move (.n rfl) rfl rfl (.t rfl) ?_
      refine s_skip (.g rfl rfl rfl) rfl ?_
      refine s_skip (.g rfl rfl rfl) rfl ?_
      refine s_skip (.g rfl rfl rfl) rfl ?_
      refine s_skip (.g rfl rfl rfl) rfl ?_
      refine s_skip (.g rfl rfl rfl) rfl ?_
      refine s_skip (.g rfl rfl rfl) rfl ?_
      refine s_pick1 (.n rfl) rfl rfl (.t rfl) .b ?_
      cases ho
      exact s_nil (fun fr h s => And.intro rfl (Exists.intro () (s.pick [] ⟨rfl, rfl, trivial⟩ rfl (by decide))))
    · have ho := cnd0 ho hb6
      refine s_move (.g rfl rfl (gf0 hb6)) rfl rfl (.t rfl) ?_
      refine s_nilck (.g rfl rfl (gf0 hb6)) rfl rfl (.t rfl) ?_
      refine s_fa F89_1 fk_depot_night_1 (by decide) (.g rfl rfl (gf0 hb6)) rfl rfl (.t rfl) ?_
      refine s_load U32 (.g rfl rfl (gf0 hb6)) rfl rfl (.t rfl) ?_
      refine s_len S32 (.g rfl rfl (gf0 hb6)) rfl rfl rfl rfl rfl (.t rfl) ?_
      refine s_move (.g rfl rfl (gf0 hb6)) rfl rfl (.t rfl) ?_
      refine s_nilck (.g rfl rfl (gf0 hb6)) rfl rfl (.t rfl) ?_
      refine s_fa F89_2 fk_depot_night_2 (by decide) (.g rfl rfl (gf0 hb6)) rfl rfl (.t rfl) ?_
      refine s_load U33 (.g rfl rfl (gf0 hb6)) rfl rfl (.t rfl) ?_
      refine s_len S33 (.g rfl rfl (gf0 hb6)) rfl rfl rfl rfl rfl (.t rfl) ?_
      refine s_cmp (.g rfl rfl (gf0 hb6)) rfl rfl (.t rfl) (.t rfl) .neq ?_
      refine s_pk0 hb6 (.n rfl) rfl rfl (.t rfl) (.t rfl) ?_
      refine s_move (.n rfl) rfl rfl (.t rfl) ?_
      rcases Bool.eq_false_or_eq_true (((lenI p_0.2.1) != (lenI p_0.2.2.1))) with hb7 | hb7
      · have ho := cnd1 ho hb7
        refine s_skip (.g rfl rfl (gf1 hb7)) rfl ?_
        refine s_skip (.g rfl rfl (gf1 hb7)) rfl ?_
        refine s_skip (.g rfl rfl (gf1 hb7)) rfl ?_
        refine s_skip (.g rfl rfl (gf1 hb7)) rfl ?_
        refine s_skip (.g rfl rfl (gf1 hb7)) rfl ?_
        refine s_skip (.g rfl rfl (gf1 hb7)) rfl ?_
        refine s_pk1 hb7 (.n rfl) rfl rfl (.t rfl) .b ?_
        cases ho
        exact s_nil (fun fr h s => And.intro rfl (Exists.intro () (s.pick [] ⟨rfl, rfl, trivial⟩ rfl (by decide))))
      · have ho := cnd0 ho hb7
        refine s_move (.g rfl rfl (gf0 hb7)) rfl rfl (.t rfl) ?_
        refine s_nilck (.g rfl rfl (gf0 hb7)) rfl rfl (.t rfl) ?_
        refine s_fa F89_1 fk_depot_night_1 (by decide) (.g rfl rfl (gf0 hb7)) rfl rfl (.t rfl) ?_
        refine s_load U32 (.g rfl rfl (gf0 hb7)) rfl rfl (.t rfl) ?_
        refine s_len S32 (.g rfl rfl (gf0 hb7)) rfl rfl rfl rfl rfl (.t rfl) ?_
        refine s_cmp (.g rfl rfl (gf0 hb7)) rfl rfl (.t rfl) (.i (by decide) (by decide)) .gtr ?_
        refine s_pk0 hb7 (.n rfl) rfl rfl (.t rfl) (.t rfl) ?_
        cases ho
        exact s_nil (fun fr h s => And.intro rfl (Exists.intro () (s.pick [] ⟨rfl, rfl, trivial⟩ rfl (by decide))))
  · intro _
    show SRun _ _ _ _ _ _
    refine r_cond (.t rfl) (fun hq8 => ?_) (fun hq8 => ?_)
    · have ho := cnd1 ho hq8
      refine r_seq ?_
      refine r_region ?_
      refine s_assign (.n rfl) rfl rfl .b ?_
      refine s_nilq rfl ?_
      cases ho
      exact r_ret (ret_of (.inr rfl) (.v rfl .n) (by decide))
    · have ho := cnd0 ho hq8
      refine r_skipq rfl ?_
      refine r_seq ?_
      refine r_seq ?_
      refine r_region ?_
      refine s_move (.n rfl) rfl rfl (.t rfl) ?_
      refine s_nilck (.n rfl) rfl rfl (.t rfl) ?_
      refine s_fa F89_0 fk_depot_night_0 (by decide) (.n rfl) rfl rfl (.t rfl) ?_
      refine s_load U31 (.n rfl) rfl rfl (.t rfl) ?_
      refine s_len S31 (.n rfl) rfl rfl rfl rfl rfl (.t rfl) ?_
      refine s_move (.n rfl) rfl rfl (.i (by decide) (by decide)) ?_
      refine s_nilq rfl ?_
      refine r_block ?_
      obtain ⟨t23, ht23, ho⟩ := bnd ho
      refine r_loop (σ := (Int)) (τ := Unit ⊕ (Bool)) (G := List AVal) (fun s g => ([(0, .val (rPtr rdepot_night) (p_0)), (40, .val (rSlice rStableTrack) (p_0.1)), (41, .val (rInt .i64) ((lenI p_0.1))), (42, .val (rInt .i64) (s))], [])) (altX (fun b => (.exit 0, fun g => ([(0, .val (rPtr rdepot_night) (p_0))], []))) (fun b => (.ret, fun g => ([(2, .val rBool (b))], [])))) _ [] ht23 (fun fr h s => s.pick [] ⟨rfl, rfl, rfl, rfl, trivial⟩ rfl (by decide)) ?_ ?_ ?_
      · intro t
        rcases t with t | t
        · exact (show (.exit 0 : AExit) ≠ .normal from fun e => by cases e)
        · exact (show (.ret : AExit) ≠ .normal from fun e => by cases e)
      · clear ho
        intro s15 g16 r24 ho
        refine r_seq ?_
        refine r_region ?_
        refine s_cmp (.n rfl) rfl rfl (.t rfl) (.t rfl) .lss ?_
        refine s_nilq rfl ?_
        refine r_seq ?_
        refine r_cond (.t rfl) (fun hq17 => ?_) (fun hq17 => ?_)
        · have ho := cnd1 ho hq17
          refine r_skipq rfl ?_
          refine r_seq ?_
          refine r_block ?_
          refine r_seq ?_
          refine r_region ?_
          obtain ⟨x18, hx18, ho⟩ := bnd ho
          refine s_idx S31 hx18 (.n rfl) rfl rfl (.t rfl) (.t rfl) ?_
          refine s_load U48 (.n rfl) rfl rfl (.t rfl) ?_
          refine s_alloc (zv := .agg [.int .i64 0, .bool false]) (es := [.val (rInt .i64) (0), .val rBool (false)]) (by kernel_rfl) (fun _ => (okint (okbool okn))) rfl (.n rfl) rfl rfl ?_
          intro b19
          refine s_storebs 0 U48 rfl (cells_pair (cells_one rfl) (cells_pair (cells_one rfl) cells_unit rfl) rfl) (by rfl) (.n rfl) rfl rfl (.t rfl) (.t rfl) (by rfl) ?_
          refine s_st (st_freezeb (R := rStableTrack) (a := x18) 0 [4] (cells_pair (cells_one rfl) (cells_pair (cells_one rfl) cells_unit rfl) rfl) rfl rfl ⟨rfl, trivial⟩) ?_
          refine s_nilq rfl ?_
          refine r_seq ?_
          refine r_region ?_
          refine s_fa F48_0 fk_StableTrack_0 (by decide) (.n rfl) rfl rfl (.t rfl) ?_
          refine s_load U3 (.n rfl) rfl rfl (.t rfl) ?_
          obtain ⟨y21, hy21, ho⟩ := bnd ho
          refine s_calll (g_depot_within_ok hy21) (.v flat_bool .n) rfl (.n rfl) rfl rfl rfl .f (.c (.o (.t rfl)) (.c (.o (.i (by decide) (by decide))) (.c (.o (.i (by decide) (by decide))) .n))) ?_
          show SOps _ _ _ _ _ _ _ _
          refine s_not (.n rfl) rfl rfl (.t rfl) ?_
          refine s_nilq rfl ?_
          refine r_cond (.t rfl) (fun hq22 => ?_) (fun hq22 => ?_)
          · have ho := cnd1 ho hq22
            refine r_seq ?_
            refine r_region ?_
            refine s_assign (.n rfl) rfl rfl .b ?_
            refine s_nilq rfl ?_
            cases ho
            exact r_ret (fun fr h s => And.intro rfl (Exists.intro [] (s.pick [] ⟨rfl, trivial⟩ rfl (by decide))))
          · have ho := cnd0 ho hq22
            refine r_skipq rfl ?_
            refine r_region ?_
            refine s_ar (.n rfl) rfl rfl (.t rfl) (.i (by decide) (by decide)) .add ?_
            refine s_move (.n rfl) rfl rfl (.t rfl) ?_
            cases ho
            exact s_nil (fun fr h s => And.intro rfl (Exists.intro [] (s.pick [] ⟨rfl, rfl, rfl, rfl, trivial⟩ rfl (by decide))))
        · have ho := cnd0 ho hq17
          cases ho
          exact r_exit (fun fr h s => And.intro rfl (Exists.intro [] (s.pick [] ⟨rfl, trivial⟩ rfl (by decide))))
      · clear ht23
        rcases t23 with b25 | b26
        · have ho := alt_l ho
          intro g27
          show ∀ fr h, St _ [(0, .val (rPtr rdepot_night) (p_0))] [] fr h → _
          show SRun _ _ _ _ _ _
          refine r_seq ?_
          refine r_seq ?_
          refine r_region ?_
          refine s_move (.n rfl) rfl rfl (.t rfl) ?_
          refine s_nilck (.n rfl) rfl rfl (.t rfl) ?_
          refine s_fa F89_1 fk_depot_night_1 (by decide) (.n rfl) rfl rfl (.t rfl) ?_
          refine s_load U32 (.n rfl) rfl rfl (.t rfl) ?_
          refine s_len S32 (.n rfl) rfl rfl rfl rfl rfl (.t rfl) ?_
          refine s_move (.n rfl) rfl rfl (.i (by decide) (by decide)) ?_
          refine s_nilq rfl ?_
          refine r_block ?_
          obtain ⟨t90, ht90, ho⟩ := bnd ho
          refine r_loop (σ := (Int)) (τ := Unit ⊕ (Bool)) (G := List AVal) (fun s g => ([(0, .val (rPtr rdepot_night) (p_0)), (54, .val (rSlice rStableCar) (p_0.2.1)), (55, .val (rInt .i64) ((lenI p_0.2.1))), (56, .val (rInt .i64) (s))], [])) (altX (fun b => (.exit 2, fun g => ([(0, .val (rPtr rdepot_night) (p_0))], []))) (fun b => (.ret, fun g => ([(2, .val rBool (b))], [])))) _ [] ht90 (fun fr h s => s.pick [] ⟨rfl, rfl, rfl, rfl, trivial⟩ rfl (by decide)) ?_ ?_ ?_
          · intro t
            rcases t with t | t
            · exact (show (.exit 2 : AExit) ≠ .normal from fun e => by cases e)
            · exact (show (.ret : AExit) ≠ .normal from fun e => by cases e)
          · clear ho
            intro s58 g59 r91 ho
            refine r_seq ?_
            refine r_region ?_
            refine s_cmp (.n rfl) rfl rfl (.t rfl) (.t rfl) .lss ?_
            refine s_nilq rfl ?_
            refine r_seq ?_
            refine r_cond (.t rfl) (fun hq60 => ?_) (fun hq60 => ?_)
            · have ho := cnd1 ho hq60
              refine r_skipq rfl ?_
              refine r_seq ?_
              refine r_block ?_
              refine r_seq ?_
              refine r_region ?_
              refine s_move (.n rfl) rfl rfl (.t rfl) ?_
              obtain ⟨x61, hx61, ho⟩ := bnd ho
              refine s_idx S32 hx61 (.n rfl) rfl rfl (.t rfl) (.t rfl) ?_
              refine s_load U44 (.n rfl) rfl rfl (.t rfl) ?_
              refine s_alloc (zv := .agg [.int .i64 0, .int .i64 0, .int .i64 0, .int .i64 0]) (es := [.val (rInt .i64) (0), .val (rInt .i64) (0), .val (rInt .i64) (0), .val (rInt .i64) (0)]) (by kernel_rfl) (fun _ => (okint (okint (okint (okint okn))))) rfl (.n rfl) rfl rfl ?_
              intro b62
              refine s_assign (.n rfl) rfl rfl (.t rfl) ?_
              refine s_storebs 0 U44 rfl (cells_pair (cells_one rfl) (cells_pair (cells_one rfl) (cells_pair (cells_one rfl) (cells_pair (cells_one rfl) cells_unit rfl) rfl) rfl) rfl) (by rfl) (.n rfl) rfl rfl (.t rfl) (.t rfl) (by rfl) ?_
              refine s_st (st_freezeb (R := rStableCar) (a := x61) 0 [6] (cells_pair (cells_one rfl) (cells_pair (cells_one rfl) (cells_pair (cells_one rfl) (cells_pair (cells_one rfl) cells_unit rfl) rfl) rfl) rfl) rfl rfl ⟨rfl, trivial⟩) ?_
              refine s_nilq rfl ?_
              refine r_seq ?_
              refine r_draw [] (by kernel_rfl) ?_
              refine s_fa F44_0 fk_StableCar_0 (by decide) (.n rfl) rfl rfl (.t rfl) ?_
              refine s_load U3 (.n rfl) rfl rfl (.t rfl) ?_
              obtain ⟨y74, hy74, ho⟩ := bnd ho
              refine s_calll (g_depot_within_ok hy74) (.v flat_bool .n) rfl (.n rfl) rfl rfl rfl .f (.c (.o (.t rfl)) (.c (.o (.i (by decide) (by decide))) (.c (.o (.i (by decide) (by decide))) .n))) ?_
              show SOps _ _ _ _ _ _ _ _
              refine s_not (.n rfl) rfl rfl (.t rfl) ?_
              refine s_move (.n rfl) rfl rfl (.t rfl) ?_
              rcases Bool.eq_false_or_eq_true ((!y74)) with hb75 | hb75
              · have ho := cnd1 ho hb75
                refine s_skip (.g rfl rfl (gf1 hb75)) rfl ?_
                refine s_skip (.g rfl rfl (gf1 hb75)) rfl ?_
                refine s_skip (.g rfl rfl (gf1 hb75)) rfl ?_
                refine s_skip (.g rfl rfl (gf1 hb75)) rfl ?_
                refine s_pk1 hb75 (.n rfl) rfl rfl (.t rfl) .b ?_
                refine s_move (.n rfl) rfl rfl (.t rfl) ?_
                refine s_skip (.g rfl rfl rfl) rfl ?_
                refine s_skip (.g rfl rfl rfl) rfl ?_
                refine s_skip (.g rfl rfl rfl) rfl ?_
                refine s_skip (.g rfl rfl rfl) rfl ?_
                refine s_pick1 (.n rfl) rfl rfl (.t rfl) .b ?_
                refine s_move (.n rfl) rfl rfl (.t rfl) ?_
                refine s_skip (.g rfl rfl rfl) rfl ?_
                refine s_skip (.g rfl rfl rfl) rfl ?_
                refine s_skip (.g rfl rfl rfl) rfl ?_
                refine s_skip (.g rfl rfl rfl) rfl ?_
                refine s_pick1 (.n rfl) rfl rfl (.t rfl) .b ?_
                refine s_move (.n rfl) rfl rfl (.t rfl) ?_
                refine s_skip (.g rfl rfl rfl) rfl ?_
                refine s_skip (.g rfl rfl rfl) rfl ?_
                refine s_skip (.g rfl rfl rfl) rfl ?_
                refine s_skip (.u rfl rfl rfl) rfl ?_
                refine s_skip (.u rfl rfl rfl) rfl ?_
                refine s_skip (.u rfl rfl rfl) rfl ?_
                refine s_skip (.u rfl rfl rfl) rfl ?_
                refine s_skip (.u rfl rfl rfl) rfl ?_
                refine s_skip (.u rfl rfl rfl) rfl ?_
                refine s_skip (.u rfl rfl rfl) rfl ?_
                refine s_skip (.u rfl rfl rfl) rfl ?_
                refine s_skip (.u rfl rfl rfl) rfl ?_
                refine s_skip (.u rfl rfl rfl) rfl ?_
                refine s_skip (.u rfl rfl rfl) rfl ?_
                refine s_skip (.u rfl rfl rfl) rfl ?_
                refine s_skip (.g rfl rfl rfl) rfl ?_
                refine s_pick1 (.n rfl) rfl rfl (.t rfl) .b ?_
                refine s_nilq rfl ?_
                refine r_cond (.t rfl) (fun _ => ?_) (fun hq => by cases hq)
                refine r_seq ?_
                refine r_region ?_
                refine s_assign (.n rfl) rfl rfl .b ?_
                refine s_nilq rfl ?_
                cases ho
                exact r_ret (fun fr h s => And.intro rfl (Exists.intro [] (s.pick [] ⟨rfl, trivial⟩ rfl (by decide))))
              · have ho := cnd0 ho hb75
                refine s_fa F44_1 fk_StableCar_1 (by decide) (.g rfl rfl (gf0 hb75)) rfl rfl (.t rfl) ?_
                refine s_load U3 (.g rfl rfl (gf0 hb75)) rfl rfl (.t rfl) ?_
                obtain ⟨y77, hy77, ho⟩ := bnd ho
                refine s_calll (g_depot_within_ok hy77) (.v flat_bool .n) rfl (.g rfl rfl (gf0 hb75)) rfl rfl rfl .f (.c (.o (.t rfl)) (.c (.o (.i (by decide) (by decide))) (.c (.o (.i (by decide) (by decide))) .n))) ?_
                show SOps _ _ _ _ _ _ _ _
                refine s_not (.g rfl rfl (gf0 hb75)) rfl rfl (.t rfl) ?_
                refine s_pk0 hb75 (.n rfl) rfl rfl (.t rfl) (.t rfl) ?_
                refine s_move (.n rfl) rfl rfl (.t rfl) ?_
                rcases Bool.eq_false_or_eq_true ((!y77)) with hb78 | hb78
                · have ho := cnd1 ho hb78
                  refine s_skip (.g rfl rfl (gf1 hb78)) rfl ?_
                  refine s_skip (.g rfl rfl (gf1 hb78)) rfl ?_
                  refine s_skip (.g rfl rfl (gf1 hb78)) rfl ?_
                  refine s_skip (.g rfl rfl (gf1 hb78)) rfl ?_
                  refine s_pk1 hb78 (.n rfl) rfl rfl (.t rfl) .b ?_
                  refine s_move (.n rfl) rfl rfl (.t rfl) ?_
                  refine s_skip (.g rfl rfl rfl) rfl ?_
                  refine s_skip (.g rfl rfl rfl) rfl ?_
                  refine s_skip (.g rfl rfl rfl) rfl ?_
                  refine s_skip (.g rfl rfl rfl) rfl ?_
                  refine s_pick1 (.n rfl) rfl rfl (.t rfl) .b ?_
                  refine s_move (.n rfl) rfl rfl (.t rfl) ?_
                  refine s_skip (.g rfl rfl rfl) rfl ?_
                  refine s_skip (.g rfl rfl rfl) rfl ?_
                  refine s_skip (.g rfl rfl rfl) rfl ?_
                  refine s_skip (.u rfl rfl rfl) rfl ?_
                  refine s_skip (.u rfl rfl rfl) rfl ?_
                  refine s_skip (.u rfl rfl rfl) rfl ?_
                  refine s_skip (.u rfl rfl rfl) rfl ?_
                  refine s_skip (.u rfl rfl rfl) rfl ?_
                  refine s_skip (.u rfl rfl rfl) rfl ?_
                  refine s_skip (.u rfl rfl rfl) rfl ?_
                  refine s_skip (.u rfl rfl rfl) rfl ?_
                  refine s_skip (.u rfl rfl rfl) rfl ?_
                  refine s_skip (.u rfl rfl rfl) rfl ?_
                  refine s_skip (.u rfl rfl rfl) rfl ?_
                  refine s_skip (.u rfl rfl rfl) rfl ?_
                  refine s_skip (.g rfl rfl rfl) rfl ?_
                  refine s_pick1 (.n rfl) rfl rfl (.t rfl) .b ?_
                  refine s_nilq rfl ?_
                  refine r_cond (.t rfl) (fun _ => ?_) (fun hq => by cases hq)
                  refine r_seq ?_
                  refine r_region ?_
                  refine s_assign (.n rfl) rfl rfl .b ?_
                  refine s_nilq rfl ?_
                  cases ho
                  exact r_ret (fun fr h s => And.intro rfl (Exists.intro [] (s.pick [] ⟨rfl, trivial⟩ rfl (by decide))))
                · have ho := cnd0 ho hb78
                  refine s_fa F44_2 fk_StableCar_2 (by decide) (.g rfl rfl (gf0 hb78)) rfl rfl (.t rfl) ?_
                  refine s_load U3 (.g rfl rfl (gf0 hb78)) rfl rfl (.t rfl) ?_
                  obtain ⟨y80, hy80, ho⟩ := bnd ho
                  refine s_calll (g_depot_within_ok hy80) (.v flat_bool .n) rfl (.g rfl rfl (gf0 hb78)) rfl rfl rfl .f (.c (.o (.t rfl)) (.c (.o (.i (by decide) (by decide))) (.c (.o (.i (by decide) (by decide))) .n))) ?_
                  show SOps _ _ _ _ _ _ _ _
                  refine s_not (.g rfl rfl (gf0 hb78)) rfl rfl (.t rfl) ?_
                  refine s_pk0 hb78 (.n rfl) rfl rfl (.t rfl) (.t rfl) ?_
                  refine s_move (.n rfl) rfl rfl (.t rfl) ?_
                  rcases Bool.eq_false_or_eq_true ((!y80)) with hb81 | hb81
                  · have ho := cnd1 ho hb81
                    refine s_skip (.g rfl rfl (gf1 hb81)) rfl ?_
                    refine s_skip (.g rfl rfl (gf1 hb81)) rfl ?_
                    refine s_skip (.g rfl rfl (gf1 hb81)) rfl ?_
                    refine s_skip (.g rfl rfl (gf1 hb81)) rfl ?_
                    refine s_pk1 hb81 (.n rfl) rfl rfl (.t rfl) .b ?_
                    refine s_move (.n rfl) rfl rfl (.t rfl) ?_
                    refine s_skip (.g rfl rfl rfl) rfl ?_
                    refine s_skip (.g rfl rfl rfl) rfl ?_
                    refine s_skip (.g rfl rfl rfl) rfl ?_
                    refine s_skip (.u rfl rfl rfl) rfl ?_
                    refine s_skip (.u rfl rfl rfl) rfl ?_
                    refine s_skip (.u rfl rfl rfl) rfl ?_
                    refine s_skip (.u rfl rfl rfl) rfl ?_
                    refine s_skip (.u rfl rfl rfl) rfl ?_
                    refine s_skip (.u rfl rfl rfl) rfl ?_
                    refine s_skip (.u rfl rfl rfl) rfl ?_
                    refine s_skip (.u rfl rfl rfl) rfl ?_
                    refine s_skip (.u rfl rfl rfl) rfl ?_
                    refine s_skip (.u rfl rfl rfl) rfl ?_
                    refine s_skip (.u rfl rfl rfl) rfl ?_
                    refine s_skip (.u rfl rfl rfl) rfl ?_
                    refine s_skip (.g rfl rfl rfl) rfl ?_
                    refine s_pick1 (.n rfl) rfl rfl (.t rfl) .b ?_
                    refine s_nilq rfl ?_
                    refine r_cond (.t rfl) (fun _ => ?_) (fun hq => by cases hq)
                    refine r_seq ?_
                    refine r_region ?_
                    refine s_assign (.n rfl) rfl rfl .b ?_
                    refine s_nilq rfl ?_
                    cases ho
                    exact r_ret (fun fr h s => And.intro rfl (Exists.intro [] (s.pick [] ⟨rfl, trivial⟩ rfl (by decide))))
                  · have ho := cnd0 ho hb81
                    refine s_fa F44_3 fk_StableCar_3 (by decide) (.g rfl rfl (gf0 hb81)) rfl rfl (.t rfl) ?_
                    refine s_load U3 (.g rfl rfl (gf0 hb81)) rfl rfl (.t rfl) ?_
                    obtain ⟨y83, hy83, ho⟩ := bnd ho
                    refine s_calll (g_depot_within_ok hy83) (.v flat_bool .n) rfl (.g rfl rfl (gf0 hb81)) rfl rfl rfl .f (.c (.o (.t rfl)) (.c (.o (.i (by decide) (by decide))) (.c (.o (.i (by decide) (by decide))) .n))) ?_
                    show SOps _ _ _ _ _ _ _ _
                    refine s_not (.g rfl rfl (gf0 hb81)) rfl rfl (.t rfl) ?_
                    refine s_pk0 hb81 (.n rfl) rfl rfl (.t rfl) (.t rfl) ?_
                    refine s_move (.n rfl) rfl rfl (.t rfl) ?_
                    rcases Bool.eq_false_or_eq_true ((!y83)) with hb84 | hb84
                    · have ho := cnd1 ho hb84
                      refine s_skip (.g rfl rfl (gf1 hb84)) rfl ?_
                      refine s_skip (.g rfl rfl (gf1 hb84)) rfl ?_
                      refine s_skip (.g rfl rfl (gf1 hb84)) rfl ?_
                      refine s_skip (.u rfl rfl rfl) rfl ?_
                      refine s_skip (.u rfl rfl rfl) rfl ?_
                      refine s_skip (.u rfl rfl rfl) rfl ?_
                      refine s_skip (.u rfl rfl rfl) rfl ?_
                      refine s_skip (.u rfl rfl rfl) rfl ?_
                      refine s_skip (.u rfl rfl rfl) rfl ?_
                      refine s_skip (.u rfl rfl rfl) rfl ?_
                      refine s_skip (.u rfl rfl rfl) rfl ?_
                      refine s_skip (.u rfl rfl rfl) rfl ?_
                      refine s_skip (.u rfl rfl rfl) rfl ?_
                      refine s_skip (.u rfl rfl rfl) rfl ?_
                      refine s_skip (.u rfl rfl rfl) rfl ?_
                      refine s_skip (.g rfl rfl (gf1 hb84)) rfl ?_
                      refine s_pk1 hb84 (.n rfl) rfl rfl (.t rfl) .b ?_
                      refine s_nilq rfl ?_
                      refine r_cond (.t rfl) (fun _ => ?_) (fun hq => by cases hq)
                      refine r_seq ?_
                      refine r_region ?_
                      refine s_assign (.n rfl) rfl rfl .b ?_
                      refine s_nilq rfl ?_
                      cases ho
                      exact r_ret (fun fr h s => And.intro rfl (Exists.intro [] (s.pick [] ⟨rfl, trivial⟩ rfl (by decide))))
                    · have ho := cnd0 ho hb84
                      refine s_move (.g rfl rfl (gf0 hb84)) rfl rfl (.t rfl) ?_
                      refine s_cmp (.g rfl rfl (gf0 hb84)) rfl rfl (.t rfl) (.i (by decide) (by decide)) .gtr ?_
                      refine s_move (.g rfl rfl (gf0 hb84)) rfl rfl (.t rfl) ?_
                      rcases Bool.eq_false_or_eq_true ((decide (s58 > 0))) with hb86 | hb86
                      · have ho := cnd1 ho hb86
                        refine s_fa F44_2 fk_StableCar_2 (by decide) (.g rfl rfl (gt1 hb86)) rfl rfl (.t rfl) ?_
                        refine s_load U3 (.g rfl rfl (gt1 hb86)) rfl rfl (.t rfl) ?_
                        refine s_move (.g rfl rfl (gt1 hb86)) rfl rfl (.t rfl) ?_
                        refine s_nilck (.g rfl rfl (gt1 hb86)) rfl rfl (.t rfl) ?_
                        refine s_fa F89_1 fk_depot_night_1 (by decide) (.g rfl rfl (gt1 hb86)) rfl rfl (.t rfl) ?_
                        refine s_load U32 (.g rfl rfl (gt1 hb86)) rfl rfl (.t rfl) ?_
                        refine s_move (.g rfl rfl (gt1 hb86)) rfl rfl (.t rfl) ?_
                        refine s_ar (.g rfl rfl (gt1 hb86)) rfl rfl (.t rfl) (.i (by decide) (by decide)) .sub ?_
                        obtain ⟨x87, hx87, ho⟩ := bnd ho
                        refine s_idx S32 hx87 (.g rfl rfl (gt1 hb86)) rfl rfl (.t rfl) (.t rfl) ?_
                        refine s_fa F44_2 fk_StableCar_2 (by decide) (.g rfl rfl (gt1 hb86)) rfl rfl (.t rfl) ?_
                        refine s_load U3 (.g rfl rfl (gt1 hb86)) rfl rfl (.t rfl) ?_
                        refine s_cmp (.g rfl rfl (gt1 hb86)) rfl rfl (.t rfl) (.t rfl) .lss ?_
                        refine s_pk1 hb86 (.g rfl rfl (gf0 hb84)) rfl rfl (.t rfl) (.t rfl) ?_
                        refine s_pk0 hb84 (.n rfl) rfl rfl (.t rfl) (.t rfl) ?_
                        refine s_nilq rfl ?_
                        refine r_cond (.t rfl) (fun hq88 => ?_) (fun hq88 => ?_)
                        · have ho := cnd1 ho hq88
                          refine r_seq ?_
                          refine r_region ?_
                          refine s_assign (.n rfl) rfl rfl .b ?_
                          refine s_nilq rfl ?_
                          cases ho
                          exact r_ret (fun fr h s => And.intro rfl (Exists.intro [] (s.pick [] ⟨rfl, trivial⟩ rfl (by decide))))
                        · have ho := cnd0 ho hq88
                          refine r_skipq rfl ?_
                          refine r_region ?_
                          refine s_ar (.n rfl) rfl rfl (.t rfl) (.i (by decide) (by decide)) .add ?_
                          refine s_move (.n rfl) rfl rfl (.t rfl) ?_
                          cases ho
                          exact s_nil (fun fr h s => And.intro rfl (Exists.intro [] (s.pick [] ⟨rfl, rfl, rfl, rfl, trivial⟩ rfl (by decide))))
                      · have ho := cnd0 ho hb86
                        refine s_skip (.g rfl rfl (gt0 hb86)) rfl ?_
                        refine s_skip (.g rfl rfl (gt0 hb86)) rfl ?_
                        refine s_skip (.g rfl rfl (gt0 hb86)) rfl ?_
                        refine s_skip (.g rfl rfl (gt0 hb86)) rfl ?_
                        refine s_skip (.g rfl rfl (gt0 hb86)) rfl ?_
                        refine s_skip (.g rfl rfl (gt0 hb86)) rfl ?_
                        refine s_skip (.g rfl rfl (gt0 hb86)) rfl ?_
                        refine s_skip (.g rfl rfl (gt0 hb86)) rfl ?_
                        refine s_skip (.g rfl rfl (gt0 hb86)) rfl ?_
                        refine s_skip (.g rfl rfl (gt0 hb86)) rfl ?_
                        refine s_skip (.g rfl rfl (gt0 hb86)) rfl ?_
                        refine s_skip (.g rfl rfl (gt0 hb86)) rfl ?_
                        refine s_pk0 hb86 (.g rfl rfl (gf0 hb84)) rfl rfl (.t rfl) .b ?_
                        refine s_pk0 hb84 (.n rfl) rfl rfl (.t rfl) (.t rfl) ?_
                        refine s_nilq rfl ?_
                        refine r_cond (.t rfl) (fun hq => by cases hq) (fun _ => ?_)
                        refine r_skipq rfl ?_
                        refine r_region ?_
                        refine s_ar (.n rfl) rfl rfl (.t rfl) (.i (by decide) (by decide)) .add ?_
                        refine s_move (.n rfl) rfl rfl (.t rfl) ?_
                        cases ho
                        exact s_nil (fun fr h s => And.intro rfl (Exists.intro [] (s.pick [] ⟨rfl, rfl, rfl, rfl, trivial⟩ rfl (by decide))))
            · have ho := cnd0 ho hq60
              cases ho
              exact r_exit (fun fr h s => And.intro rfl (Exists.intro [] (s.pick [] ⟨rfl, trivial⟩ rfl (by decide))))
          · clear ht90
            rcases t90 with b92 | b93
            · have ho := alt_l ho
              intro g94
              show ∀ fr h, St _ [(0, .val (rPtr rdepot_night) (p_0))] [] fr h → _
              show SRun _ _ _ _ _ _
              refine r_seq ?_
              refine r_seq ?_
              refine r_region ?_
              refine s_move (.n rfl) rfl rfl (.t rfl) ?_
              refine s_nilck (.n rfl) rfl rfl (.t rfl) ?_
              refine s_fa F89_2 fk_depot_night_2 (by decide) (.n rfl) rfl rfl (.t rfl) ?_
              refine s_load U33 (.n rfl) rfl rfl (.t rfl) ?_
              refine s_len S33 (.n rfl) rfl rfl rfl rfl rfl (.t rfl) ?_
              refine s_move (.n rfl) rfl rfl (.i (by decide) (by decide)) ?_
              refine s_nilq rfl ?_
              refine r_block ?_
              obtain ⟨t137, ht137, ho⟩ := bnd ho
              refine r_loop (σ := (Int)) (τ := Unit ⊕ (Bool)) (G := List AVal) (fun s g => ([(0, .val (rPtr rdepot_night) (p_0)), (105, .val (rSlice rStableLeave) (p_0.2.2.1)), (106, .val (rInt .i64) ((lenI p_0.2.2.1))), (107, .val (rInt .i64) (s))], [])) (altX (fun b => (.exit 4, fun g => ([], []))) (fun b => (.ret, fun g => ([(2, .val rBool (b))], [])))) _ [] ht137 (fun fr h s => s.pick [] ⟨rfl, rfl, rfl, rfl, trivial⟩ rfl (by decide)) ?_ ?_ ?_
              · intro t
                rcases t with t | t
                · exact (show (.exit 4 : AExit) ≠ .normal from fun e => by cases e)
                · exact (show (.ret : AExit) ≠ .normal from fun e => by cases e)
              · clear ho
                intro s115 g116 r138 ho
                refine r_seq ?_
                refine r_region ?_
                refine s_cmp (.n rfl) rfl rfl (.t rfl) (.t rfl) .lss ?_
                refine s_nilq rfl ?_
                refine r_seq ?_
                refine r_cond (.t rfl) (fun hq117 => ?_) (fun hq117 => ?_)
                · have ho := cnd1 ho hq117
                  refine r_skipq rfl ?_
                  refine r_seq ?_
                  refine r_block ?_
                  refine r_seq ?_
                  refine r_region ?_
                  refine s_move (.n rfl) rfl rfl (.t rfl) ?_
                  obtain ⟨x118, hx118, ho⟩ := bnd ho
                  refine s_idx S33 hx118 (.n rfl) rfl rfl (.t rfl) (.t rfl) ?_
                  refine s_load U46 (.n rfl) rfl rfl (.t rfl) ?_
                  refine s_alloc (zv := .agg [.int .i64 0, .int .i64 0]) (es := [.val (rInt .i64) (0), .val (rInt .i64) (0)]) (by kernel_rfl) (fun _ => (okint (okint okn))) rfl (.n rfl) rfl rfl ?_
                  intro b119
                  refine s_assign (.n rfl) rfl rfl (.t rfl) ?_
                  refine s_storebs 0 U46 rfl (cells_pair (cells_one rfl) (cells_pair (cells_one rfl) cells_unit rfl) rfl) (by rfl) (.n rfl) rfl rfl (.t rfl) (.t rfl) (by rfl) ?_
                  refine s_st (st_freezeb (R := rStableLeave) (a := x118) 0 [8] (cells_pair (cells_one rfl) (cells_pair (cells_one rfl) cells_unit rfl) rfl) rfl rfl ⟨rfl, trivial⟩) ?_
                  refine s_nilq rfl ?_
                  refine r_seq ?_
                  refine r_draw [] (by kernel_rfl) ?_
                  refine s_fa F46_0 fk_StableLeave_0 (by decide) (.n rfl) rfl rfl (.t rfl) ?_
                  refine s_load U3 (.n rfl) rfl rfl (.t rfl) ?_
                  obtain ⟨y127, hy127, ho⟩ := bnd ho
                  refine s_calll (g_depot_within_ok hy127) (.v flat_bool .n) rfl (.n rfl) rfl rfl rfl .f (.c (.o (.t rfl)) (.c (.o (.i (by decide) (by decide))) (.c (.o (.i (by decide) (by decide))) .n))) ?_
                  show SOps _ _ _ _ _ _ _ _
                  refine s_not (.n rfl) rfl rfl (.t rfl) ?_
                  refine s_move (.n rfl) rfl rfl (.t rfl) ?_
                  rcases Bool.eq_false_or_eq_true ((!y127)) with hb128 | hb128
                  · have ho := cnd1 ho hb128
                    refine s_skip (.g rfl rfl (gf1 hb128)) rfl ?_
                    refine s_skip (.g rfl rfl (gf1 hb128)) rfl ?_
                    refine s_skip (.g rfl rfl (gf1 hb128)) rfl ?_
                    refine s_skip (.g rfl rfl (gf1 hb128)) rfl ?_
                    refine s_pk1 hb128 (.n rfl) rfl rfl (.t rfl) .b ?_
                    refine s_move (.n rfl) rfl rfl (.t rfl) ?_
                    refine s_skip (.g rfl rfl rfl) rfl ?_
                    refine s_skip (.g rfl rfl rfl) rfl ?_
                    refine s_skip (.g rfl rfl rfl) rfl ?_
                    refine s_skip (.u rfl rfl rfl) rfl ?_
                    refine s_skip (.u rfl rfl rfl) rfl ?_
                    refine s_skip (.u rfl rfl rfl) rfl ?_
                    refine s_skip (.u rfl rfl rfl) rfl ?_
                    refine s_skip (.u rfl rfl rfl) rfl ?_
                    refine s_skip (.u rfl rfl rfl) rfl ?_
                    refine s_skip (.u rfl rfl rfl) rfl ?_
                    refine s_skip (.u rfl rfl rfl) rfl ?_
                    refine s_skip (.u rfl rfl rfl) rfl ?_
                    refine s_skip (.u rfl rfl rfl) rfl ?_
                    refine s_skip (.u rfl rfl rfl) rfl ?_
                    refine s_skip (.u rfl rfl rfl) rfl ?_
                    refine s_skip (.g rfl rfl rfl) rfl ?_
                    refine s_pick1 (.n rfl) rfl rfl (.t rfl) .b ?_
                    refine s_nilq rfl ?_
                    refine r_cond (.t rfl) (fun _ => ?_) (fun hq => by cases hq)
                    refine r_seq ?_
                    refine r_region ?_
                    refine s_assign (.n rfl) rfl rfl .b ?_
                    refine s_nilq rfl ?_
                    cases ho
                    exact r_ret (fun fr h s => And.intro rfl (Exists.intro [] (s.pick [] ⟨rfl, trivial⟩ rfl (by decide))))
                  · have ho := cnd0 ho hb128
                    refine s_fa F46_1 fk_StableLeave_1 (by decide) (.g rfl rfl (gf0 hb128)) rfl rfl (.t rfl) ?_
                    refine s_load U3 (.g rfl rfl (gf0 hb128)) rfl rfl (.t rfl) ?_
                    obtain ⟨y130, hy130, ho⟩ := bnd ho
                    refine s_calll (g_depot_within_ok hy130) (.v flat_bool .n) rfl (.g rfl rfl (gf0 hb128)) rfl rfl rfl .f (.c (.o (.t rfl)) (.c (.o (.i (by decide) (by decide))) (.c (.o (.i (by decide) (by decide))) .n))) ?_
                    show SOps _ _ _ _ _ _ _ _
                    refine s_not (.g rfl rfl (gf0 hb128)) rfl rfl (.t rfl) ?_
                    refine s_pk0 hb128 (.n rfl) rfl rfl (.t rfl) (.t rfl) ?_
                    refine s_move (.n rfl) rfl rfl (.t rfl) ?_
                    rcases Bool.eq_false_or_eq_true ((!y130)) with hb131 | hb131
                    · have ho := cnd1 ho hb131
                      refine s_skip (.g rfl rfl (gf1 hb131)) rfl ?_
                      refine s_skip (.g rfl rfl (gf1 hb131)) rfl ?_
                      refine s_skip (.g rfl rfl (gf1 hb131)) rfl ?_
                      refine s_skip (.u rfl rfl rfl) rfl ?_
                      refine s_skip (.u rfl rfl rfl) rfl ?_
                      refine s_skip (.u rfl rfl rfl) rfl ?_
                      refine s_skip (.u rfl rfl rfl) rfl ?_
                      refine s_skip (.u rfl rfl rfl) rfl ?_
                      refine s_skip (.u rfl rfl rfl) rfl ?_
                      refine s_skip (.u rfl rfl rfl) rfl ?_
                      refine s_skip (.u rfl rfl rfl) rfl ?_
                      refine s_skip (.u rfl rfl rfl) rfl ?_
                      refine s_skip (.u rfl rfl rfl) rfl ?_
                      refine s_skip (.u rfl rfl rfl) rfl ?_
                      refine s_skip (.u rfl rfl rfl) rfl ?_
                      refine s_skip (.g rfl rfl (gf1 hb131)) rfl ?_
                      refine s_pk1 hb131 (.n rfl) rfl rfl (.t rfl) .b ?_
                      refine s_nilq rfl ?_
                      refine r_cond (.t rfl) (fun _ => ?_) (fun hq => by cases hq)
                      refine r_seq ?_
                      refine r_region ?_
                      refine s_assign (.n rfl) rfl rfl .b ?_
                      refine s_nilq rfl ?_
                      cases ho
                      exact r_ret (fun fr h s => And.intro rfl (Exists.intro [] (s.pick [] ⟨rfl, trivial⟩ rfl (by decide))))
                    · have ho := cnd0 ho hb131
                      refine s_move (.g rfl rfl (gf0 hb131)) rfl rfl (.t rfl) ?_
                      refine s_cmp (.g rfl rfl (gf0 hb131)) rfl rfl (.t rfl) (.i (by decide) (by decide)) .gtr ?_
                      refine s_move (.g rfl rfl (gf0 hb131)) rfl rfl (.t rfl) ?_
                      rcases Bool.eq_false_or_eq_true ((decide (s115 > 0))) with hb133 | hb133
                      · have ho := cnd1 ho hb133
                        refine s_fa F46_1 fk_StableLeave_1 (by decide) (.g rfl rfl (gt1 hb133)) rfl rfl (.t rfl) ?_
                        refine s_load U3 (.g rfl rfl (gt1 hb133)) rfl rfl (.t rfl) ?_
                        refine s_move (.g rfl rfl (gt1 hb133)) rfl rfl (.t rfl) ?_
                        refine s_nilck (.g rfl rfl (gt1 hb133)) rfl rfl (.t rfl) ?_
                        refine s_fa F89_2 fk_depot_night_2 (by decide) (.g rfl rfl (gt1 hb133)) rfl rfl (.t rfl) ?_
                        refine s_load U33 (.g rfl rfl (gt1 hb133)) rfl rfl (.t rfl) ?_
                        refine s_move (.g rfl rfl (gt1 hb133)) rfl rfl (.t rfl) ?_
                        refine s_ar (.g rfl rfl (gt1 hb133)) rfl rfl (.t rfl) (.i (by decide) (by decide)) .sub ?_
                        obtain ⟨x134, hx134, ho⟩ := bnd ho
                        refine s_idx S33 hx134 (.g rfl rfl (gt1 hb133)) rfl rfl (.t rfl) (.t rfl) ?_
                        refine s_fa F46_1 fk_StableLeave_1 (by decide) (.g rfl rfl (gt1 hb133)) rfl rfl (.t rfl) ?_
                        refine s_load U3 (.g rfl rfl (gt1 hb133)) rfl rfl (.t rfl) ?_
                        refine s_cmp (.g rfl rfl (gt1 hb133)) rfl rfl (.t rfl) (.t rfl) .lss ?_
                        refine s_pk1 hb133 (.g rfl rfl (gf0 hb131)) rfl rfl (.t rfl) (.t rfl) ?_
                        refine s_pk0 hb131 (.n rfl) rfl rfl (.t rfl) (.t rfl) ?_
                        refine s_nilq rfl ?_
                        refine r_cond (.t rfl) (fun hq135 => ?_) (fun hq135 => ?_)
                        · have ho := cnd1 ho hq135
                          refine r_seq ?_
                          refine r_region ?_
                          refine s_assign (.n rfl) rfl rfl .b ?_
                          refine s_nilq rfl ?_
                          cases ho
                          exact r_ret (fun fr h s => And.intro rfl (Exists.intro [] (s.pick [] ⟨rfl, trivial⟩ rfl (by decide))))
                        · have ho := cnd0 ho hq135
                          refine r_skipq rfl ?_
                          refine r_region ?_
                          refine s_ar (.n rfl) rfl rfl (.t rfl) (.i (by decide) (by decide)) .add ?_
                          refine s_move (.n rfl) rfl rfl (.t rfl) ?_
                          cases ho
                          exact s_nil (fun fr h s => And.intro rfl (Exists.intro [] (s.pick [] ⟨rfl, rfl, rfl, rfl, trivial⟩ rfl (by decide))))
                      · have ho := cnd0 ho hb133
                        refine s_skip (.g rfl rfl (gt0 hb133)) rfl ?_
                        refine s_skip (.g rfl rfl (gt0 hb133)) rfl ?_
                        refine s_skip (.g rfl rfl (gt0 hb133)) rfl ?_
                        refine s_skip (.g rfl rfl (gt0 hb133)) rfl ?_
                        refine s_skip (.g rfl rfl (gt0 hb133)) rfl ?_
                        refine s_skip (.g rfl rfl (gt0 hb133)) rfl ?_
                        refine s_skip (.g rfl rfl (gt0 hb133)) rfl ?_
                        refine s_skip (.g rfl rfl (gt0 hb133)) rfl ?_
                        refine s_skip (.g rfl rfl (gt0 hb133)) rfl ?_
                        refine s_skip (.g rfl rfl (gt0 hb133)) rfl ?_
                        refine s_skip (.g rfl rfl (gt0 hb133)) rfl ?_
                        refine s_skip (.g rfl rfl (gt0 hb133)) rfl ?_
                        refine s_pk0 hb133 (.g rfl rfl (gf0 hb131)) rfl rfl (.t rfl) .b ?_
                        refine s_pk0 hb131 (.n rfl) rfl rfl (.t rfl) (.t rfl) ?_
                        refine s_nilq rfl ?_
                        refine r_cond (.t rfl) (fun hq => by cases hq) (fun _ => ?_)
                        refine r_skipq rfl ?_
                        refine r_region ?_
                        refine s_ar (.n rfl) rfl rfl (.t rfl) (.i (by decide) (by decide)) .add ?_
                        refine s_move (.n rfl) rfl rfl (.t rfl) ?_
                        cases ho
                        exact s_nil (fun fr h s => And.intro rfl (Exists.intro [] (s.pick [] ⟨rfl, rfl, rfl, rfl, trivial⟩ rfl (by decide))))
                · have ho := cnd0 ho hq117
                  cases ho
                  exact r_exit (fun fr h s => And.intro rfl (Exists.intro [] (s.pick [] trivial rfl (by decide))))
              · clear ht137
                rcases t137 with b139 | b140
                · have ho := alt_l ho
                  intro g141
                  show ∀ fr h, St _ [] [] fr h → _
                  show SRun _ _ _ _ _ _
                  refine r_seq ?_
                  refine r_region ?_
                  refine s_assign (.n rfl) rfl rfl .b ?_
                  refine s_nilq rfl ?_
                  cases ho
                  exact r_ret (ret_of (.inr rfl) (.v rfl .n) (by decide))
                · have ho := alt_r ho
                  intro g142
                  show ∀ fr h, St _ [(2, .val rBool (b140))] [] fr h → _
                  cases ho
                  exact id (ret_of (.inr rfl) (.v rfl .n) (by decide))
            · have ho := alt_r ho
              intro g143
              show ∀ fr h, St _ [(2, .val rBool (b93))] [] fr h → _
              cases ho
              exact id (ret_of (.inr rfl) (.v rfl .n) (by decide))
        · have ho := alt_r ho
          intro g144
          show ∀ fr h, St _ [(2, .val rBool (b26))] [] fr h → _
          cases ho
          exact id (ret_of (.inr rfl) (.v rfl .n) (by decide))
theorem g_depot_night_quiet_ok {n_0 : depot_night} {out : (Bool)} (ho : g_depot_night_quiet n_0 = some out) : Fun ktab 43 [.val (rPtr rdepot_night) n_0] [.val rBool (out)] := by
  refine fun_of (F := Try.f43) (by rfl) (by rfl) (by rfl) (fun C hC => ?_)
  delta g_depot_night_quiet at ho
  refine r_seq ?_
  refine r_region ?_
  refine s_assign (.n rfl) rfl rfl .b ?_
  refine s_nilq rfl ?_
  refine r_seq ?_
  obtain ⟨c4, hc4, ho⟩ := bnd ho
  refine r_cut (τ := (Bool)) (G := Unit) (fun t => (.normal, fun _ => ([(2, .val rBool (t))], []))) (t := c4) ?_ ?_
  · have ho := hc4
    clear hc4
    refine r_draw [] (by kernel_rfl) ?_
    refine s_move (.n rfl) rfl rfl (.t rfl) ?_
    refine s_nilck (.n rfl) rfl rfl (.t rfl) ?_
    refine s_fa F89_1 fk_depot_night_1 (by decide) (.n rfl) rfl rfl (.t rfl) ?_
    refine s_load U32 (.n rfl) rfl rfl (.t rfl) ?_
    refine s_len S32 (.n rfl) rfl rfl rfl rfl rfl (.t rfl) ?_
    refine s_cmp (.n rfl) rfl rfl (.t rfl) (.i (by decide) (by decide)) .eql ?_
    refine s_move (.n rfl) rfl rfl (.t rfl) ?_
    rcases Bool.eq_false_or_eq_true (((lenI n_0.2.1) == 0)) with hb5 | hb5
    · have ho := cnd1 ho hb5
      refine s_skip (.g rfl rfl (gf1 hb5)) rfl ?_
      refine s_skip (.g rfl rfl (gf1 hb5)) rfl ?_
      refine s_skip (.g rfl rfl (gf1 hb5)) rfl ?_
      refine s_skip (.g rfl rfl (gf1 hb5)) rfl ?_
      refine s_skip (.g rfl rfl (gf1 hb5)) rfl ?_
      refine s_skip (.g rfl rfl (gf1 hb5)) rfl ?_
      refine s_skip (.g rfl rfl (gf1 hb5)) rfl ?_
      refine s_skip (.g rfl rfl (gf1 hb5)) rfl ?_
      refine s_skip (.g rfl rfl (gf1 hb5)) rfl ?_
      refine s_skip (.g rfl rfl (gf1 hb5)) rfl ?_
      refine s_skip (.g rfl rfl (gf1 hb5)) rfl ?_
      refine s_skip (.g rfl rfl (gf1 hb5)) rfl ?_
      refine s_skip (.g rfl rfl (gf1 hb5)) rfl ?_
      refine s_skip (.g rfl rfl (gf1 hb5)) rfl ?_
      refine s_skip (.g rfl rfl (gf1 hb5)) rfl ?_
      refine s_skip (.g rfl rfl (gf1 hb5)) rfl ?_
      refine s_skip (.g rfl rfl (gf1 hb5)) rfl ?_
      refine s_skip (.g rfl rfl (gf1 hb5)) rfl ?_
      refine s_skip (.g rfl rfl (gf1 hb5)) rfl ?_
      refine s_skip (.g rfl rfl (gf1 hb5)) rfl ?_
      refine s_skip (.g rfl rfl (gf1 hb5)) rfl ?_
      refine s_pk1 hb5 (.n rfl) rfl rfl (.t rfl) .b ?_
      refine s_assign (.n rfl) rfl rfl (.t rfl) ?_
      cases ho
      exact s_nil (fun fr h s => And.intro rfl (Exists.intro () (s.pick [] ⟨rfl, trivial⟩ rfl (by decide))))
    · have ho := cnd0 ho hb5
      refine s_move (.g rfl rfl (gf0 hb5)) rfl rfl (.t rfl) ?_
      refine s_nilck (.g rfl rfl (gf0 hb5)) rfl rfl (.t rfl) ?_
      refine s_fa F89_1 fk_depot_night_1 (by decide) (.g rfl rfl (gf0 hb5)) rfl rfl (.t rfl) ?_
      refine s_load U32 (.g rfl rfl (gf0 hb5)) rfl rfl (.t rfl) ?_
      refine s_move (.g rfl rfl (gf0 hb5)) rfl rfl (.t rfl) ?_
      refine s_nilck (.g rfl rfl (gf0 hb5)) rfl rfl (.t rfl) ?_
      refine s_fa F89_1 fk_depot_night_1 (by decide) (.g rfl rfl (gf0 hb5)) rfl rfl (.t rfl) ?_
      refine s_load U32 (.g rfl rfl (gf0 hb5)) rfl rfl (.t rfl) ?_
      refine s_len S32 (.g rfl rfl (gf0 hb5)) rfl rfl rfl rfl rfl (.t rfl) ?_
      refine s_ar (.g rfl rfl (gf0 hb5)) rfl rfl (.t rfl) (.i (by decide) (by decide)) .sub ?_
      obtain ⟨x6, hx6, ho⟩ := bnd ho
      refine s_idx S32 hx6 (.g rfl rfl (gf0 hb5)) rfl rfl (.t rfl) (.t rfl) ?_
      refine s_fa F44_2 fk_StableCar_2 (by decide) (.g rfl rfl (gf0 hb5)) rfl rfl (.t rfl) ?_
      refine s_load U3 (.g rfl rfl (gf0 hb5)) rfl rfl (.t rfl) ?_
      refine s_move (.g rfl rfl (gf0 hb5)) rfl rfl (.t rfl) ?_
      refine s_nilck (.g rfl rfl (gf0 hb5)) rfl rfl (.t rfl) ?_
      refine s_fa F89_2 fk_depot_night_2 (by decide) (.g rfl rfl (gf0 hb5)) rfl rfl (.t rfl) ?_
      refine s_load U33 (.g rfl rfl (gf0 hb5)) rfl rfl (.t rfl) ?_
      obtain ⟨x7, hx7, ho⟩ := bnd ho
      refine s_idx S33 hx7 (.g rfl rfl (gf0 hb5)) rfl rfl (.t rfl) (.i (by decide) (by decide)) ?_
      refine s_fa F46_1 fk_StableLeave_1 (by decide) (.g rfl rfl (gf0 hb5)) rfl rfl (.t rfl) ?_
      refine s_load U3 (.g rfl rfl (gf0 hb5)) rfl rfl (.t rfl) ?_
      refine s_cmp (.g rfl rfl (gf0 hb5)) rfl rfl (.t rfl) (.t rfl) .leq ?_
      refine s_pk0 hb5 (.n rfl) rfl rfl (.t rfl) (.t rfl) ?_
      refine s_assign (.n rfl) rfl rfl (.t rfl) ?_
      cases ho
      exact s_nil (fun fr h s => And.intro rfl (Exists.intro () (s.pick [] ⟨rfl, trivial⟩ rfl (by decide))))
  · intro _
    show SRun _ _ _ _ _ _
    cases ho
    exact r_ret (ret_of (.inr rfl) (.v rfl .n) (by decide))
theorem g_slices_Clone_int_int_ok {s_0 : (List Int)} {out : (List Int)} (ho : g_slices_Clone_int_int s_0 = some out) : Fun ktab 49 [.val (rSlice (rInt .i64)) s_0] [.row (rInt .i64) out] := by
  refine fun_of (F := Try.f49) (by rfl) (by rfl) (by rfl) (fun C hC => ?_)
  delta g_slices_Clone_int_int at ho
  refine r_seq ?_
  refine r_region ?_
  refine s_st (st_nilrow (rInt .i64)) ?_
  refine s_assign (.n rfl) rfl rfl .nilr ?_
  refine s_nilq rfl ?_
  refine r_seq ?_
  refine r_seq ?_
  refine r_region ?_
  refine s_move (.n rfl) rfl rfl (.t rfl) ?_
  refine s_isnil S22 (.n rfl) rfl rfl (.t rfl) (fun he => ?_) ?_
  · subst he
    have e : out = [] := by simp [appO] at ho; first | exact ho | exact ho.symm
    subst e
    refine s_nilq rfl ?_
    refine r_cond (.t rfl) (fun _ => ?_) (fun hq => by cases hq)
    refine r_seq ?_
    refine r_region ?_
    refine s_st (st_nilrow (rInt .i64)) ?_
    refine s_assign (.n rfl) rfl rfl .nilr ?_
    refine s_nilq rfl ?_
    exact r_ret (ret_of (.inr rfl) (.r 0 rfl rfl .n) (by decide))
  · refine s_nilq rfl ?_
    refine r_cond (.t rfl) (fun hq => by cases hq) (fun _ => ?_)
    refine r_skipq rfl ?_
    refine r_seq ?_
    refine r_region ?_
    refine s_bso (R := (rInt .i64)) S22 Y3 (.n rfl) rfl rfl (Elts.n (R := (rInt .i64))) rfl (by decide) ?_
    intro v1
    refine s_move (.n rfl) rfl rfl (.t rfl) ?_
    refine s_app 0 S22 Y3 ho (.n rfl) rfl rfl rfl rfl rfl (.t rfl) rfl (.t rfl) rfl ?_
    intro v2
    refine s_assign (.n rfl) rfl rfl (.t rfl) ?_
    refine s_nilq rfl ?_
    exact r_ret (ret_of (.inr rfl) (.r 0 rfl rfl .n) (by decide))
theorem g_depot_night_fit_ok {n_0 : depot_night} {tracks_1 : (List Int)} {out : (Bool)} (ho : g_depot_night_fit n_0 tracks_1 = some out) : Fun ktab 67 [.val (rPtr rdepot_night) n_0, .val (rSlice (rInt .i64)) tracks_1] [.val rBool (out)] := by
  refine fun_of (F := Try.f67) (by rfl) (by rfl) (by rfl) (fun C hC => ?_)
  delta g_depot_night_fit at ho
  refine r_seq ?_
  refine r_region ?_
  refine s_assign (.n rfl) rfl rfl .b ?_
  refine s_nilq rfl ?_
  refine r_seq ?_
  refine r_region ?_
  refine s_move (.n rfl) rfl rfl (.t rfl) ?_
  refine s_nilck (.n rfl) rfl rfl (.t rfl) ?_
  refine s_fa F89_0 fk_depot_night_0 (by decide) (.n rfl) rfl rfl (.t rfl) ?_
  refine s_load U31 (.n rfl) rfl rfl (.t rfl) ?_
  refine s_len S31 (.n rfl) rfl rfl rfl rfl rfl (.t rfl) ?_
  obtain ⟨x1, hx1, ho⟩ := bnd ho
  refine s_mk S22 Y3 Z3 hx1 (.n rfl) rfl rfl (.t rfl) (.t rfl) ?_
  intro v2
  refine s_assign (.n rfl) rfl rfl (.t rfl) ?_
  refine s_nilq rfl ?_
  refine r_seq ?_
  refine r_seq ?_
  refine r_region ?_
  refine s_move (.n rfl) rfl rfl (.t rfl) ?_
  refine s_len S22 (.n rfl) rfl rfl rfl rfl rfl (.t rfl) ?_
  refine s_move (.n rfl) rfl rfl (.i (by decide) (by decide)) ?_
  refine s_nilq rfl ?_
  refine r_block ?_
  obtain ⟨t30, ht30, ho⟩ := bnd ho
  refine r_loop (σ := (Int × (List Int))) (τ := ((List Int)) ⊕ (Bool × (List Int))) (G := List AVal) (fun s g => ([(0, .val (rPtr rdepot_night) (n_0)), (5, .raw v2), (14, .val (rSlice (rInt .i64)) (tracks_1)), (15, .val (rInt .i64) ((lenI tracks_1))), (16, .val (rInt .i64) (s.1))], [(v2, .row (rInt .i64) (s.2))])) (altX (fun b => (.exit 0, fun g => ([], []))) (fun b => (.ret, fun g => ([(4, .val rBool (b.1))], [])))) _ [] ht30 (fun fr h s => s.pick [0] ⟨rfl, rfl, rfl, rfl, rfl, trivial⟩ rfl (by decide)) ?_ ?_ ?_
  · intro t
    rcases t with t | t
    · exact (show (.exit 0 : AExit) ≠ .normal from fun e => by cases e)
    · exact (show (.ret : AExit) ≠ .normal from fun e => by cases e)
  · clear ho
    intro s20 g21 r31 ho
    refine r_seq ?_
    refine r_region ?_
    refine s_cmp (.n rfl) rfl rfl (.t rfl) (.t rfl) .lss ?_
    refine s_nilq rfl ?_
    refine r_seq ?_
    refine r_cond (.t rfl) (fun hq22 => ?_) (fun hq22 => ?_)
    · have ho := cnd1 ho hq22
      refine r_skipq rfl ?_
      refine r_seq ?_
      refine r_block ?_
      refine r_seq ?_
      refine r_region ?_
      refine s_move (.n rfl) rfl rfl (.t rfl) ?_
      obtain ⟨x23, hx23, ho⟩ := bnd ho
      refine s_idx S22 hx23 (.n rfl) rfl rfl (.t rfl) (.t rfl) ?_
      refine s_load U3 (.n rfl) rfl rfl (.t rfl) ?_
      refine s_assign (.n rfl) rfl rfl (.t rfl) ?_
      refine s_assign (.n rfl) rfl rfl (.t rfl) ?_
      refine s_nilq rfl ?_
      refine r_seq ?_
      refine r_draw [3] (by kernel_rfl) ?_
      refine s_move (.n rfl) rfl rfl (.t rfl) ?_
      refine s_move (.n rfl) rfl rfl (.t rfl) ?_
      obtain ⟨x24, hx24, ho⟩ := bnd ho
      refine s_idxo 0 S22 hx24 (.n rfl) rfl rfl (.t rfl) rfl (.t rfl) ?_
      refine s_loado 0 (fun _ h => by cases h <;> rfl) U3 FOk.self (idx_inv hx24).2.2.2 (.n rfl) rfl rfl (.t rfl) rfl ?_
      refine s_move (.n rfl) rfl rfl (.t rfl) ?_
      refine s_nilck (.n rfl) rfl rfl (.t rfl) ?_
      refine s_fa F89_1 fk_depot_night_1 (by decide) (.n rfl) rfl rfl (.t rfl) ?_
      refine s_load U32 (.n rfl) rfl rfl (.t rfl) ?_
      refine s_move (.n rfl) rfl rfl (.t rfl) ?_
      obtain ⟨x25, hx25, ho⟩ := bnd ho
      refine s_idx S32 hx25 (.n rfl) rfl rfl (.t rfl) (.t rfl) ?_
      refine s_fa F44_1 fk_StableCar_1 (by decide) (.n rfl) rfl rfl (.t rfl) ?_
      refine s_load U3 (.n rfl) rfl rfl (.t rfl) ?_
      refine s_ar (.n rfl) rfl rfl (.t rfl) (.t rfl) .add ?_
      obtain ⟨x26, hx26, ho⟩ := bnd ho
      refine s_idxo 0 S22 hx26 (.n rfl) rfl rfl (.t rfl) rfl (.t rfl) ?_
      refine s_storeo 0 U3 FOk.self (idx_inv hx26).2.2.2 (.n rfl) rfl rfl (.t rfl) (.t rfl) rfl rfl ?_
      refine s_nilq rfl ?_
      refine r_seq ?_
      refine r_draw [3] (by kernel_rfl) ?_
      refine s_move (.n rfl) rfl rfl (.t rfl) ?_
      refine s_move (.n rfl) rfl rfl (.t rfl) ?_
      obtain ⟨x27, hx27, ho⟩ := bnd ho
      refine s_idxo 0 S22 hx27 (.n rfl) rfl rfl (.t rfl) rfl (.t rfl) ?_
      refine s_loado 0 (fun _ h => by cases h <;> rfl) U3 FOk.self (idx_inv hx27).2.2.2 (.n rfl) rfl rfl (.t rfl) rfl ?_
      refine s_move (.n rfl) rfl rfl (.t rfl) ?_
      refine s_nilck (.n rfl) rfl rfl (.t rfl) ?_
      refine s_fa F89_0 fk_depot_night_0 (by decide) (.n rfl) rfl rfl (.t rfl) ?_
      refine s_load U31 (.n rfl) rfl rfl (.t rfl) ?_
      refine s_move (.n rfl) rfl rfl (.t rfl) ?_
      obtain ⟨x28, hx28, ho⟩ := bnd ho
      refine s_idx S31 hx28 (.n rfl) rfl rfl (.t rfl) (.t rfl) ?_
      refine s_fa F48_0 fk_StableTrack_0 (by decide) (.n rfl) rfl rfl (.t rfl) ?_
      refine s_load U3 (.n rfl) rfl rfl (.t rfl) ?_
      refine s_cmp (.n rfl) rfl rfl (.t rfl) (.t rfl) .gtr ?_
      refine s_nilq rfl ?_
      refine r_cond (.t rfl) (fun hq29 => ?_) (fun hq29 => ?_)
      · have ho := cnd1 ho hq29
        refine r_seq ?_
        refine r_region ?_
        refine s_assign (.n rfl) rfl rfl .b ?_
        refine s_nilq rfl ?_
        cases ho
        exact r_ret (fun fr h s => And.intro rfl (Exists.intro [] (s.pick [] ⟨rfl, trivial⟩ rfl (by decide))))
      · have ho := cnd0 ho hq29
        refine r_skipq rfl ?_
        refine r_region ?_
        refine s_ar (.n rfl) rfl rfl (.t rfl) (.i (by decide) (by decide)) .add ?_
        refine s_move (.n rfl) rfl rfl (.t rfl) ?_
        cases ho
        exact s_nil (fun fr h s => And.intro rfl (Exists.intro [] (s.pick [0] ⟨rfl, rfl, rfl, rfl, rfl, trivial⟩ rfl (by decide))))
    · have ho := cnd0 ho hq22
      cases ho
      exact r_exit (fun fr h s => And.intro rfl (Exists.intro [] (s.pick [] trivial rfl (by decide))))
  · clear ht30
    rcases t30 with b32 | b33
    · have ho := alt_l ho
      intro g34
      show ∀ fr h, St _ [] [] fr h → _
      show SRun _ _ _ _ _ _
      refine r_seq ?_
      refine r_region ?_
      refine s_assign (.n rfl) rfl rfl .b ?_
      refine s_nilq rfl ?_
      cases ho
      exact r_ret (ret_of (.inr rfl) (.v rfl .n) (by decide))
    · have ho := alt_r ho
      intro g35
      show ∀ fr h, St _ [(4, .val rBool (b33.1))] [] fr h → _
      cases ho
      exact id (ret_of (.inr rfl) (.v rfl .n) (by decide))
theorem g_slices_Index_int_int_ok {s_0 : (List Int)} {v_1 : Int} {out : (Int)} (ho : g_slices_Index_int_int s_0 v_1 = some out) : Fun ktab 72 [.val (rSlice (rInt .i64)) s_0, .val (rInt .i64) v_1] [.val (rInt .i64) (out)] := by
  refine fun_of (F := Try.f72) (by rfl) (by rfl) (by rfl) (fun C hC => ?_)
  delta g_slices_Index_int_int at ho
  refine r_seq ?_
  refine r_region ?_
  refine s_assign (.n rfl) rfl rfl (.i (by decide) (by decide)) ?_
  refine s_nilq rfl ?_
  refine r_seq ?_
  refine r_seq ?_
  refine r_region ?_
  refine s_move (.n rfl) rfl rfl (.t rfl) ?_
  refine s_len S22 (.n rfl) rfl rfl rfl rfl rfl (.t rfl) ?_
  refine s_move (.n rfl) rfl rfl (.i (by decide) (by decide)) ?_
  refine s_nilq rfl ?_
  refine r_block ?_
  obtain ⟨t9, ht9, ho⟩ := bnd ho
  refine r_loop (σ := (Int)) (τ := Unit ⊕ (Int)) (G := List AVal) (fun s g => ([(0, .val (rSlice (rInt .i64)) (s_0)), (1, .val (rInt .i64) (v_1)), (7, .val (rInt .i64) ((lenI s_0))), (8, .val (rInt .i64) (s))], [])) (altX (fun b => (.exit 0, fun g => ([], []))) (fun b => (.ret, fun g => ([(4, .val (rInt .i64) (b))], [])))) _ [] ht9 (fun fr h s => s.pick [] ⟨rfl, rfl, rfl, rfl, trivial⟩ rfl (by decide)) ?_ ?_ ?_
  · intro t
    rcases t with t | t
    · exact (show (.exit 0 : AExit) ≠ .normal from fun e => by cases e)
    · exact (show (.ret : AExit) ≠ .normal from fun e => by cases e)
  · clear ho
    intro s4 g5 r10 ho
    refine r_seq ?_
    refine r_region ?_
    refine s_cmp (.n rfl) rfl rfl (.t rfl) (.t rfl) .lss ?_
    refine s_nilq rfl ?_
    refine r_seq ?_
    refine r_cond (.t rfl) (fun hq6 => ?_) (fun hq6 => ?_)
    · have ho := cnd1 ho hq6
      refine r_skipq rfl ?_
      refine r_seq ?_
      refine r_block ?_
      refine r_seq ?_
      refine r_region ?_
      refine s_move (.n rfl) rfl rfl (.t rfl) ?_
      refine s_assign (.n rfl) rfl rfl (.t rfl) ?_
      refine s_nilq rfl ?_
      refine r_seq ?_
      refine r_region ?_
      refine s_move (.n rfl) rfl rfl (.t rfl) ?_
      refine s_move (.n rfl) rfl rfl (.t rfl) ?_
      refine s_move (.n rfl) rfl rfl (.t rfl) ?_
      obtain ⟨x7, hx7, ho⟩ := bnd ho
      refine s_idx S22 hx7 (.n rfl) rfl rfl (.t rfl) (.t rfl) ?_
      refine s_load U3 (.n rfl) rfl rfl (.t rfl) ?_
      refine s_cmp (.n rfl) rfl rfl (.t rfl) (.t rfl) .eql ?_
      refine s_nilq rfl ?_
      refine r_cond (.t rfl) (fun hq8 => ?_) (fun hq8 => ?_)
      · have ho := cnd1 ho hq8
        refine r_seq ?_
        refine r_region ?_
        refine s_move (.n rfl) rfl rfl (.t rfl) ?_
        refine s_assign (.n rfl) rfl rfl (.t rfl) ?_
        refine s_nilq rfl ?_
        cases ho
        exact r_ret (fun fr h s => And.intro rfl (Exists.intro [] (s.pick [] ⟨rfl, trivial⟩ rfl (by decide))))
      · have ho := cnd0 ho hq8
        refine r_skipq rfl ?_
        refine r_region ?_
        refine s_ar (.n rfl) rfl rfl (.t rfl) (.i (by decide) (by decide)) .add ?_
        refine s_move (.n rfl) rfl rfl (.t rfl) ?_
        cases ho
        exact s_nil (fun fr h s => And.intro rfl (Exists.intro [] (s.pick [] ⟨rfl, rfl, rfl, rfl, trivial⟩ rfl (by decide))))
    · have ho := cnd0 ho hq6
      cases ho
      exact r_exit (fun fr h s => And.intro rfl (Exists.intro [] (s.pick [] trivial rfl (by decide))))
  · clear ht9
    rcases t9 with b11 | b12
    · have ho := alt_l ho
      intro g13
      show ∀ fr h, St _ [] [] fr h → _
      show SRun _ _ _ _ _ _
      refine r_seq ?_
      refine r_region ?_
      refine s_assign (.n rfl) rfl rfl (.i (by decide) (by decide)) ?_
      refine s_nilq rfl ?_
      cases ho
      exact r_ret (ret_of (.inr rfl) (.v rfl .n) (by decide))
    · have ho := alt_r ho
      intro g14
      show ∀ fr h, St _ [(4, .val (rInt .i64) (b12))] [] fr h → _
      cases ho
      exact id (ret_of (.inr rfl) (.v rfl .n) (by decide))
theorem g_depot_night_takes_ok {n_0 : depot_night} {car_1 : Int} {leave_2 : Int} {out : (Bool)} (ho : g_depot_night_takes n_0 car_1 leave_2 = some out) : Fun ktab 69 [.val (rPtr rdepot_night) n_0, .val (rInt .i64) car_1, .val (rInt .i64) leave_2] [.val rBool (out)] := by
  refine fun_of (F := Try.f69) (by rfl) (by rfl) (by rfl) (fun C hC => ?_)
  delta g_depot_night_takes at ho
  refine r_seq ?_
  refine r_region ?_
  refine s_assign (.n rfl) rfl rfl .b ?_
  refine s_nilq rfl ?_
  refine r_seq ?_
  refine r_draw [] (by kernel_rfl) ?_
  refine s_move (.n rfl) rfl rfl (.t rfl) ?_
  refine s_nilck (.n rfl) rfl rfl (.t rfl) ?_
  refine s_fa F89_1 fk_depot_night_1 (by decide) (.n rfl) rfl rfl (.t rfl) ?_
  refine s_load U32 (.n rfl) rfl rfl (.t rfl) ?_
  refine s_move (.n rfl) rfl rfl (.t rfl) ?_
  obtain ⟨x1, hx1, ho⟩ := bnd ho
  refine s_idx S32 hx1 (.n rfl) rfl rfl (.t rfl) (.t rfl) ?_
  refine s_load U44 (.n rfl) rfl rfl (.t rfl) ?_
  refine s_move (.n rfl) rfl rfl (.t rfl) ?_
  refine s_nilck (.n rfl) rfl rfl (.t rfl) ?_
  refine s_fa F89_2 fk_depot_night_2 (by decide) (.n rfl) rfl rfl (.t rfl) ?_
  refine s_load U33 (.n rfl) rfl rfl (.t rfl) ?_
  refine s_move (.n rfl) rfl rfl (.t rfl) ?_
  obtain ⟨x2, hx2, ho⟩ := bnd ho
  refine s_idx S33 hx2 (.n rfl) rfl rfl (.t rfl) (.t rfl) ?_
  refine s_load U46 (.n rfl) rfl rfl (.t rfl) ?_
  refine s_alloc (zv := .agg [.int .i64 0, .int .i64 0, .int .i64 0, .int .i64 0]) (es := [.val (rInt .i64) (0), .val (rInt .i64) (0), .val (rInt .i64) (0), .val (rInt .i64) (0)]) (by kernel_rfl) (fun _ => (okint (okint (okint (okint okn))))) rfl (.n rfl) rfl rfl ?_
  intro b3
  refine s_alloc (zv := .agg [.int .i64 0, .int .i64 0]) (es := [.val (rInt .i64) (0), .val (rInt .i64) (0)]) (by kernel_rfl) (fun _ => (okint (okint okn))) rfl (.n rfl) rfl rfl ?_
  intro b5
  refine s_storebs 1 U44 rfl (cells_pair (cells_one rfl) (cells_pair (cells_one rfl) (cells_pair (cells_one rfl) (cells_pair (cells_one rfl) cells_unit rfl) rfl) rfl) rfl) (by rfl) (.n rfl) rfl rfl (.t rfl) (.t rfl) (by rfl) ?_
  refine s_st (st_freezeb (R := rStableCar) (a := x1) 1 [7] (cells_pair (cells_one rfl) (cells_pair (cells_one rfl) (cells_pair (cells_one rfl) (cells_pair (cells_one rfl) cells_unit rfl) rfl) rfl) rfl) rfl rfl ⟨rfl, trivial⟩) ?_
  refine s_storebs 0 U46 rfl (cells_pair (cells_one rfl) (cells_pair (cells_one rfl) cells_unit rfl) rfl) (by rfl) (.n rfl) rfl rfl (.t rfl) (.t rfl) (by rfl) ?_
  refine s_st (st_freezeb (R := rStableLeave) (a := x2) 0 [8] (cells_pair (cells_one rfl) (cells_pair (cells_one rfl) cells_unit rfl) rfl) rfl rfl ⟨rfl, trivial⟩) ?_
  refine s_nilq rfl ?_
  refine r_seq ?_
  obtain ⟨c9, hc9, ho⟩ := bnd ho
  refine r_cut (τ := (Bool)) (G := Unit) (fun t => (.normal, fun _ => ([(6, .val rBool (t))], []))) (t := c9) ?_ ?_
  · have ho := hc9
    clear hc9
    refine r_region ?_
    refine s_fa F44_0 fk_StableCar_0 (by decide) (.n rfl) rfl rfl (.t rfl) ?_
    refine s_load U3 (.n rfl) rfl rfl (.t rfl) ?_
    refine s_fa F46_0 fk_StableLeave_0 (by decide) (.n rfl) rfl rfl (.t rfl) ?_
    refine s_load U3 (.n rfl) rfl rfl (.t rfl) ?_
    refine s_cmp (.n rfl) rfl rfl (.t rfl) (.t rfl) .eql ?_
    refine s_move (.n rfl) rfl rfl (.t rfl) ?_
    rcases Bool.eq_false_or_eq_true ((x1.1 == x2.1)) with hb10 | hb10
    · have ho := cnd1 ho hb10
      refine s_fa F44_2 fk_StableCar_2 (by decide) (.g rfl rfl (gt1 hb10)) rfl rfl (.t rfl) ?_
      refine s_load U3 (.g rfl rfl (gt1 hb10)) rfl rfl (.t rfl) ?_
      refine s_fa F46_1 fk_StableLeave_1 (by decide) (.g rfl rfl (gt1 hb10)) rfl rfl (.t rfl) ?_
      refine s_load U3 (.g rfl rfl (gt1 hb10)) rfl rfl (.t rfl) ?_
      refine s_cmp (.g rfl rfl (gt1 hb10)) rfl rfl (.t rfl) (.t rfl) .leq ?_
      refine s_pk1 hb10 (.n rfl) rfl rfl (.t rfl) (.t rfl) ?_
      refine s_move (.n rfl) rfl rfl (.t rfl) ?_
      rcases Bool.eq_false_or_eq_true ((decide (x1.2.2.1 ≤ x2.2.1))) with hb11 | hb11
      · have ho := cnd1 ho hb11
        refine s_fa F46_1 fk_StableLeave_1 (by decide) (.g rfl rfl (gt1 hb11)) rfl rfl (.t rfl) ?_
        refine s_load U3 (.g rfl rfl (gt1 hb11)) rfl rfl (.t rfl) ?_
        refine s_fa F44_3 fk_StableCar_3 (by decide) (.g rfl rfl (gt1 hb11)) rfl rfl (.t rfl) ?_
        refine s_load U3 (.g rfl rfl (gt1 hb11)) rfl rfl (.t rfl) ?_
        refine s_cmp (.g rfl rfl (gt1 hb11)) rfl rfl (.t rfl) (.t rfl) .leq ?_
        refine s_pk1 hb11 (.n rfl) rfl rfl (.t rfl) (.t rfl) ?_
        refine s_assign (.n rfl) rfl rfl (.t rfl) ?_
        cases ho
        exact s_nil (fun fr h s => And.intro rfl (Exists.intro () (s.pick [] ⟨rfl, trivial⟩ rfl (by decide))))
      · have ho := cnd0 ho hb11
        refine s_skip (.g rfl rfl (gt0 hb11)) rfl ?_
        refine s_skip (.g rfl rfl (gt0 hb11)) rfl ?_
        refine s_skip (.g rfl rfl (gt0 hb11)) rfl ?_
        refine s_skip (.g rfl rfl (gt0 hb11)) rfl ?_
        refine s_skip (.g rfl rfl (gt0 hb11)) rfl ?_
        refine s_pk0 hb11 (.n rfl) rfl rfl (.t rfl) .b ?_
        refine s_assign (.n rfl) rfl rfl (.t rfl) ?_
        cases ho
        exact s_nil (fun fr h s => And.intro rfl (Exists.intro () (s.pick [] ⟨rfl, trivial⟩ rfl (by decide))))
    · have ho := cnd0 ho hb10
      refine s_skip (.g rfl rfl (gt0 hb10)) rfl ?_
      refine s_skip (.g rfl rfl (gt0 hb10)) rfl ?_
      refine s_skip (.g rfl rfl (gt0 hb10)) rfl ?_
      refine s_skip (.g rfl rfl (gt0 hb10)) rfl ?_
      refine s_skip (.g rfl rfl (gt0 hb10)) rfl ?_
      refine s_pk0 hb10 (.n rfl) rfl rfl (.t rfl) .b ?_
      refine s_move (.n rfl) rfl rfl (.t rfl) ?_
      refine s_skip (.g rfl rfl rfl) rfl ?_
      refine s_skip (.g rfl rfl rfl) rfl ?_
      refine s_skip (.g rfl rfl rfl) rfl ?_
      refine s_skip (.g rfl rfl rfl) rfl ?_
      refine s_skip (.g rfl rfl rfl) rfl ?_
      refine s_pick0 (.n rfl) rfl rfl (.t rfl) .b ?_
      refine s_assign (.n rfl) rfl rfl (.t rfl) ?_
      cases ho
      exact s_nil (fun fr h s => And.intro rfl (Exists.intro () (s.pick [] ⟨rfl, trivial⟩ rfl (by decide))))
  · intro _
    show SRun _ _ _ _ _ _
    cases ho
    exact r_ret (ret_of (.inr rfl) (.v rfl .n) (by decide))
theorem g_slices_Reverse_int_int_ok   {s_0 : (List Int)} {out : ((List Int))} (ho : g_slices_Reverse_int_int s_0 = some out) (v_0 : AVal) : FunM ktab 80 [.raw v_0] [(v_0, .row (rInt .i64) (s_0))] [] (fun γ => [(v_0, .row (rInt .i64) (out))]) := by
  refine funm_of (F := Try.f80) (by rfl) (by rfl) (by rfl) (fun C => ?_)
  delta g_slices_Reverse_int_int at ho
  refine r_seq ?_
  refine r_region ?_
  refine s_move (.n rfl) rfl rfl (.t rfl) ?_
  refine s_leno 0 S22 (.n rfl) rfl rfl rfl rfl rfl (.t rfl) rfl ?_
  refine s_ar (.n rfl) rfl rfl (.t rfl) (.i (by decide) (by decide)) .sub ?_
  refine s_assign (.n rfl) rfl rfl (.i (by decide) (by decide)) ?_
  refine s_assign (.n rfl) rfl rfl (.t rfl) ?_
  refine s_nilq rfl ?_
  refine r_block ?_
  obtain ⟨t18, ht18, ho⟩ := bnd ho
  refine r_loop (σ := (Int × Int × (List Int))) (τ := ((List Int))) (G := List AVal) (fun s g => ([(0, .raw v_0), (2, .val (rInt .i64) (s.1)), (3, .val (rInt .i64) (s.2.1))], [(v_0, .row (rInt .i64) (s.2.2))])) (fun b => (.exit 0, fun g => ([], [(v_0, .row (rInt .i64) (b))]))) _ [] ht18 (fun fr h s => s.pick [0] ⟨rfl, rfl, rfl, trivial⟩ rfl (by decide)) ?_ ?_ ?_
  · intro t
    exact (show (.exit 0 : AExit) ≠ .normal from fun e => by cases e)
  · clear ho
    intro s11 g12 r19 ho
    refine r_seq ?_
    refine r_seq ?_
    refine r_region ?_
    refine s_move (.n rfl) rfl rfl (.t rfl) ?_
    refine s_move (.n rfl) rfl rfl (.t rfl) ?_
    refine s_cmp (.n rfl) rfl rfl (.t rfl) (.t rfl) .lss ?_
    refine s_nilq rfl ?_
    refine r_cond (.t rfl) (fun hq13 => ?_) (fun hq13 => ?_)
    · have ho := cnd1 ho hq13
      refine r_skipq rfl ?_
      refine r_seq ?_
      refine r_block ?_
      refine r_draw [7, 11] (by kernel_rfl) ?_
      refine s_move (.n rfl) rfl rfl (.t rfl) ?_
      refine s_move (.n rfl) rfl rfl (.t rfl) ?_
      refine s_move (.n rfl) rfl rfl (.t rfl) ?_
      refine s_move (.n rfl) rfl rfl (.t rfl) ?_
      refine s_move (.n rfl) rfl rfl (.t rfl) ?_
      refine s_move (.n rfl) rfl rfl (.t rfl) ?_
      obtain ⟨x14, hx14, ho⟩ := bnd ho
      refine s_idxo 0 S22 hx14 (.n rfl) rfl rfl (.t rfl) rfl (.t rfl) ?_
      refine s_loado 0 (fun _ h => by cases h <;> rfl) U3 FOk.self (idx_inv hx14).2.2.2 (.n rfl) rfl rfl (.t rfl) rfl ?_
      refine s_move (.n rfl) rfl rfl (.t rfl) ?_
      refine s_move (.n rfl) rfl rfl (.t rfl) ?_
      obtain ⟨x15, hx15, ho⟩ := bnd ho
      refine s_idxo 0 S22 hx15 (.n rfl) rfl rfl (.t rfl) rfl (.t rfl) ?_
      refine s_loado 0 (fun _ h => by cases h <;> rfl) U3 FOk.self (idx_inv hx15).2.2.2 (.n rfl) rfl rfl (.t rfl) rfl ?_
      obtain ⟨x16, hx16, ho⟩ := bnd ho
      refine s_idxo 0 S22 hx16 (.n rfl) rfl rfl (.t rfl) rfl (.t rfl) ?_
      refine s_storeo 0 U3 FOk.self (idx_inv hx16).2.2.2 (.n rfl) rfl rfl (.t rfl) (.t rfl) rfl rfl ?_
      obtain ⟨x17, hx17, ho⟩ := bnd ho
      refine s_idxo 0 S22 hx17 (.n rfl) rfl rfl (.t rfl) rfl (.t rfl) ?_
      refine s_storeo 0 U3 FOk.self (idx_inv hx17).2.2.2 (.n rfl) rfl rfl (.t rfl) (.t rfl) rfl rfl ?_
      refine s_nilq rfl ?_
      refine r_region ?_
      refine s_move (.n rfl) rfl rfl (.t rfl) ?_
      refine s_ar (.n rfl) rfl rfl (.t rfl) (.i (by decide) (by decide)) .add ?_
      refine s_move (.n rfl) rfl rfl (.t rfl) ?_
      refine s_ar (.n rfl) rfl rfl (.t rfl) (.i (by decide) (by decide)) .sub ?_
      refine s_assign (.n rfl) rfl rfl (.t rfl) ?_
      refine s_assign (.n rfl) rfl rfl (.t rfl) ?_
      cases ho
      exact s_nil (fun fr h s => And.intro rfl (Exists.intro [] (s.pick [0] ⟨rfl, rfl, rfl, trivial⟩ rfl (by decide))))
    · have ho := cnd0 ho hq13
      cases ho
      exact r_exit (fun fr h s => And.intro rfl (Exists.intro [] (s.pick [0] trivial rfl (by decide))))
  · intro g20
    show ∀ fr h, St _ [] [(v_0, .row (rInt .i64) (t18))] fr h → _
    cases ho
    exact id (retm_of [0] [] (.inl rfl) .n rfl (by decide))
theorem g_depot_night_aside_ok {p_0 : depot_night} {p_1 : (List Int)} {p_2 : Int} {p_3 : ((Int) → Option (Bool))} {out : ((List Int))} (ho : g_depot_night_aside p_0 p_1 p_2 p_3 = some out) : Fun ktab 70 [.val (rPtr rdepot_night) p_0, .val (rSlice (rInt .i64)) p_1, .val (rInt .i64) p_2, .val (rFn ktab (Int) (Bool) (fun x => [.val (rInt .i64) (x)]) (fun y => [.val rBool (y)])) p_3] [.row (rInt .i64) (out)] := by
  refine fun_of (F := Try.f70) (by rfl) (by rfl) (by rfl) (fun C hC => ?_)
  delta g_depot_night_aside at ho
  refine r_seq ?_
  refine r_region ?_
  refine s_st (st_nilrow (rInt .i64)) ?_
  refine s_assign (.n rfl) rfl rfl .nilr ?_
  refine s_nilq rfl ?_
  refine r_seq ?_
  refine r_region ?_
  refine s_st (st_nilrow (rInt .i64)) ?_
  refine s_assign (.n rfl) rfl rfl .nilr ?_
  refine s_nilq rfl ?_
  refine r_seq ?_
  refine r_region ?_
  refine s_assign (.n rfl) rfl rfl (.i (by decide) (by decide)) ?_
  refine s_nilq rfl ?_
  refine r_seq ?_
  refine r_seq ?_
  refine r_region ?_
  refine s_move (.n rfl) rfl rfl (.t rfl) ?_
  refine s_len S22 (.n rfl) rfl rfl rfl rfl rfl (.t rfl) ?_
  refine s_move (.n rfl) rfl rfl (.i (by decide) (by decide)) ?_
  refine s_nilq rfl ?_
  refine r_block ?_
  obtain ⟨t45, ht45, ho⟩ := bnd ho
  refine r_loop (σ := ((List Int) × Int × Int)) (τ := ((List Int) × Int)) (G := List AVal) (fun s g => ([(0, .val (rPtr rdepot_night) (p_0)), (1, .val (rSlice (rInt .i64)) (p_1)), (2, .val (rInt .i64) (p_2)), (3, .val (rFn ktab (Int) (Bool) (fun x => [.val (rInt .i64) (x)]) (fun y => [.val rBool (y)])) (p_3)), (9, .raw ((gh g 0))), (10, .val (rInt .i64) (s.2.1)), (14, .val (rSlice (rInt .i64)) (p_1)), (15, .val (rInt .i64) ((lenI p_1))), (16, .val (rInt .i64) (s.2.2))], [((gh g 0), .row (rInt .i64) (s.1))])) (fun b => (.exit 0, fun g => ([(0, .val (rPtr rdepot_night) (p_0)), (1, .val (rSlice (rInt .i64)) (p_1)), (2, .val (rInt .i64) (p_2)), (9, .raw ((gh g 0))), (10, .val (rInt .i64) (b.2))], [((gh g 0), .row (rInt .i64) (b.1))]))) _ [.nilslice] ht45 (fun fr h s => s.pick [0] ⟨rfl, rfl, rfl, rfl, rfl, rfl, rfl, rfl, rfl, trivial⟩ rfl (by decide)) ?_ ?_ ?_
  · intro t
    exact (show (.exit 0 : AExit) ≠ .normal from fun e => by cases e)
  · clear ho
    intro s20 g21 r46 ho
    refine r_seq ?_
    refine r_region ?_
    refine s_cmp (.n rfl) rfl rfl (.t rfl) (.t rfl) .lss ?_
    refine s_nilq rfl ?_
    refine r_seq ?_
    refine r_cond (.t rfl) (fun hq25 => ?_) (fun hq25 => ?_)
    · have ho := cnd1 ho hq25
      refine r_skipq rfl ?_
      refine r_seq ?_
      refine r_block ?_
      refine r_seq ?_
      refine r_region ?_
      refine s_move (.n rfl) rfl rfl (.t rfl) ?_
      obtain ⟨x26, hx26, ho⟩ := bnd ho
      refine s_idx S22 hx26 (.n rfl) rfl rfl (.t rfl) (.t rfl) ?_
      refine s_load U3 (.n rfl) rfl rfl (.t rfl) ?_
      refine s_assign (.n rfl) rfl rfl (.t rfl) ?_
      refine s_assign (.n rfl) rfl rfl (.t rfl) ?_
      refine s_nilq rfl ?_
      refine r_seq ?_
      refine r_seq ?_
      refine r_region ?_
      refine s_move (.n rfl) rfl rfl (.t rfl) ?_
      refine s_move (.n rfl) rfl rfl (.t rfl) ?_
      refine s_move (.n rfl) rfl rfl (.t rfl) ?_
      obtain ⟨x30, hx30, ho⟩ := bnd ho
      refine s_idx S22 hx30 (.n rfl) rfl rfl (.t rfl) (.t rfl) ?_
      refine s_load U3 (.n rfl) rfl rfl (.t rfl) ?_
      refine s_cmp (.n rfl) rfl rfl (.t rfl) (.t rfl) .neq ?_
      refine s_move (.n rfl) rfl rfl (.t rfl) ?_
      rcases Bool.eq_false_or_eq_true ((x26 != x30)) with hb31 | hb31
      · have ho := cnd1 ho hb31
        refine s_skip (.g rfl rfl (gf1 hb31)) rfl ?_
        refine s_skip (.g rfl rfl (gf1 hb31)) rfl ?_
        refine s_skip (.g rfl rfl (gf1 hb31)) rfl ?_
        refine s_pk1 hb31 (.n rfl) rfl rfl (.t rfl) .b ?_
        refine s_nilq rfl ?_
        refine r_cond (.t rfl) (fun _ => ?_) (fun hq => by cases hq)
        refine r_exitq rfl ?_
        refine r_region ?_
        refine s_ar (.n rfl) rfl rfl (.t rfl) (.i (by decide) (by decide)) .add ?_
        refine s_move (.n rfl) rfl rfl (.t rfl) ?_
        cases ho
        exact s_nil (fun fr h s => And.intro rfl (Exists.intro [(gh g21 0)] (s.pick [0] ⟨rfl, rfl, rfl, rfl, rfl, rfl, rfl, rfl, rfl, trivial⟩ rfl (by decide))))
      · have ho := cnd0 ho hb31
        refine s_move (.g rfl rfl (gf0 hb31)) rfl rfl (.t rfl) ?_
        refine s_move (.g rfl rfl (gf0 hb31)) rfl rfl (.t rfl) ?_
        obtain ⟨y34, hy34, ho⟩ := bnd ho
        refine s_callv hy34 (.g rfl rfl (gf0 hb31)) rfl rfl rfl (.t rfl) (.c (.t rfl) .n) ?_
        show SOps _ _ _ _ _ _ _ _
        refine s_pk0 hb31 (.n rfl) rfl rfl (.t rfl) (.t rfl) ?_
        refine s_nilq rfl ?_
        refine r_cond (.t rfl) (fun hq35 => ?_) (fun hq35 => ?_)
        · have ho := cnd1 ho hq35
          refine r_exitq rfl ?_
          refine r_region ?_
          refine s_ar (.n rfl) rfl rfl (.t rfl) (.i (by decide) (by decide)) .add ?_
          refine s_move (.n rfl) rfl rfl (.t rfl) ?_
          cases ho
          exact s_nil (fun fr h s => And.intro rfl (Exists.intro [(gh g21 0)] (s.pick [0] ⟨rfl, rfl, rfl, rfl, rfl, rfl, rfl, rfl, rfl, trivial⟩ rfl (by decide))))
        · have ho := cnd0 ho hq35
          refine r_skipq rfl ?_
          refine r_seq ?_
          refine r_seq ?_
          refine r_region ?_
          refine s_move (.n rfl) rfl rfl (.t rfl) ?_
          refine s_move (.n rfl) rfl rfl (.t rfl) ?_
          refine s_cmp (.n rfl) rfl rfl (.t rfl) (.t rfl) .eql ?_
          refine s_nilq rfl ?_
          refine r_cond (.t rfl) (fun hq37 => ?_) (fun hq37 => ?_)
          · have ho := cnd1 ho hq37
            refine r_region ?_
            refine s_move (.n rfl) rfl rfl (.t rfl) ?_
            refine s_leno 0 S22 (.n rfl) rfl rfl rfl rfl rfl (.t rfl) rfl ?_
            refine s_assign (.n rfl) rfl rfl (.t rfl) ?_
            refine s_nilq rfl ?_
            refine r_region ?_
            refine s_move (.n rfl) rfl rfl (.t rfl) ?_
            refine s_move (.n rfl) rfl rfl (.t rfl) ?_
            refine s_bs (R := (rInt .i64)) S22 Y3 (.n rfl) rfl rfl (.c (.t rfl) .n) rfl (by decide) ?_
            obtain ⟨x38, hx38, ho⟩ := bnd ho
            refine s_app 0 S22 Y3 hx38 (.n rfl) rfl rfl rfl rfl rfl (.t rfl) rfl (.t rfl) rfl ?_
            intro v39
            refine s_assign (.n rfl) rfl rfl (.t rfl) ?_
            refine s_nilq rfl ?_
            refine r_region ?_
            refine s_ar (.n rfl) rfl rfl (.t rfl) (.i (by decide) (by decide)) .add ?_
            refine s_move (.n rfl) rfl rfl (.t rfl) ?_
            cases ho
            exact s_nil (fun fr h s => And.intro rfl (Exists.intro [v39] (s.pick [0] ⟨rfl, rfl, rfl, rfl, rfl, rfl, rfl, rfl, rfl, trivial⟩ rfl (by decide))))
          · have ho := cnd0 ho hq37
            refine r_skipq rfl ?_
            refine r_region ?_
            refine s_move (.n rfl) rfl rfl (.t rfl) ?_
            refine s_move (.n rfl) rfl rfl (.t rfl) ?_
            refine s_bs (R := (rInt .i64)) S22 Y3 (.n rfl) rfl rfl (.c (.t rfl) .n) rfl (by decide) ?_
            obtain ⟨x41, hx41, ho⟩ := bnd ho
            refine s_app 0 S22 Y3 hx41 (.n rfl) rfl rfl rfl rfl rfl (.t rfl) rfl (.t rfl) rfl ?_
            intro v42
            refine s_assign (.n rfl) rfl rfl (.t rfl) ?_
            refine s_nilq rfl ?_
            refine r_region ?_
            refine s_ar (.n rfl) rfl rfl (.t rfl) (.i (by decide) (by decide)) .add ?_
            refine s_move (.n rfl) rfl rfl (.t rfl) ?_
            cases ho
            exact s_nil (fun fr h s => And.intro rfl (Exists.intro [v42] (s.pick [0] ⟨rfl, rfl, rfl, rfl, rfl, rfl, rfl, rfl, rfl, trivial⟩ rfl (by decide))))
    · have ho := cnd0 ho hq25
      cases ho
      exact r_exit (fun fr h s => And.intro rfl (Exists.intro [(gh g21 0)] (s.pick [0] ⟨rfl, rfl, rfl, rfl, rfl, trivial⟩ rfl (by decide))))
  · intro g47
    show ∀ fr h, St _ [(0, .val (rPtr rdepot_night) (p_0)), (1, .val (rSlice (rInt .i64)) (p_1)), (2, .val (rInt .i64) (p_2)), (9, .raw ((gh g47 0))), (10, .val (rInt .i64) (t45.2))] [((gh g47 0), .row (rInt .i64) (t45.1))] fr h → _
    show SRun _ _ _ _ _ _
    refine r_seq ?_
    refine r_seq ?_
    refine r_draw [] (by kernel_rfl) ?_
    refine s_move (.n rfl) rfl rfl (.t rfl) ?_
    refine s_nilck (.n rfl) rfl rfl (.t rfl) ?_
    refine s_fa F89_0 fk_depot_night_0 (by decide) (.n rfl) rfl rfl (.t rfl) ?_
    refine s_load U31 (.n rfl) rfl rfl (.t rfl) ?_
    refine s_move (.n rfl) rfl rfl (.t rfl) ?_
    refine s_move (.n rfl) rfl rfl (.t rfl) ?_
    obtain ⟨x49, hx49, ho⟩ := bnd ho
    refine s_idx S22 hx49 (.n rfl) rfl rfl (.t rfl) (.t rfl) ?_
    refine s_load U3 (.n rfl) rfl rfl (.t rfl) ?_
    obtain ⟨x50, hx50, ho⟩ := bnd ho
    refine s_idx S31 hx50 (.n rfl) rfl rfl (.t rfl) (.t rfl) ?_
    refine s_fa F48_1 fk_StableTrack_1 (by decide) (.n rfl) rfl rfl (.t rfl) ?_
    refine s_load U4 (.n rfl) rfl rfl (.t rfl) ?_
    refine s_nilq rfl ?_
    refine r_cond (.t rfl) (fun hq51 => ?_) (fun hq51 => ?_)
    · have ho := cnd1 ho hq51
      refine r_seq ?_
      refine r_region ?_
      refine s_move (.n rfl) rfl rfl (.t rfl) ?_
      refine s_move (.n rfl) rfl rfl (.t rfl) ?_
      refine s_move (.n rfl) rfl rfl (.t rfl) ?_
      obtain ⟨x52, hx52, ho⟩ := bnd ho
      refine s_sl3o 0 S22 hx52 (.n rfl) rfl rfl (.t rfl) rfl (.t rfl) (.t rfl) rfl ?_
      intro v53
      refine s_assign (.n rfl) rfl rfl (.t rfl) ?_
      refine s_nilq rfl ?_
      cases ho
      exact r_ret (ret_of (.inr rfl) (.r 0 rfl rfl .n) (by decide))
    · have ho := cnd0 ho hq51
      refine r_skipq rfl ?_
      refine r_seq ?_
      refine r_region ?_
      refine s_move (.n rfl) rfl rfl (.t rfl) ?_
      refine s_move (.n rfl) rfl rfl (.t rfl) ?_
      refine s_ar (.n rfl) rfl rfl (.t rfl) (.i (by decide) (by decide)) .add ?_
      refine s_st (st_freeze 0 [9, 57] rfl rfl ⟨rfl, rfl, trivial⟩) ?_
      obtain ⟨x54, hx54, ho⟩ := bnd ho
      refine s_slO S22 hx54 (.n rfl) rfl rfl (.t rfl) (.s (.t rfl)) .n ?_
      obtain ⟨y55, hy55, ho⟩ := bnd ho
      refine s_calll (g_slices_Clone_int_int_ok hy55) (.r flat_int .n) rfl (.n rfl) rfl rfl rfl .f (.c (.o (.t rfl)) .n) ?_
      intro v56
      show SOps _ _ _ _ _ _ _ _
      refine s_assign (.n rfl) rfl rfl (.t rfl) ?_
      refine s_nilq rfl ?_
      refine r_seq ?_
      refine r_region ?_
      refine s_move (.n rfl) rfl rfl (.t rfl) ?_
      obtain ⟨y58, hy58, ho⟩ := bnd ho
      refine s_callmd [0] [] (fun _ h => by cases h) (g_slices_Reverse_int_int_ok hy58 v56) rfl rfl (by decide) rfl (.n rfl) rfl rfl rfl .f (.c (.t rfl) .n) ?_
      intro g59
      show SOps _ _ _ _ _ _ _ _
      refine s_nilq rfl ?_
      refine r_seq ?_
      refine r_region ?_
      refine s_move (.n rfl) rfl rfl (.t rfl) ?_
      refine s_assign (.n rfl) rfl rfl (.t rfl) ?_
      refine s_nilq rfl ?_
      cases ho
      exact r_ret (ret_of (.inr rfl) (.r 0 rfl rfl .n) (by decide))
theorem g_depot_night_plan_ok {p_0 : depot_night} {p_1 : StablePlan} {out : (Bool)} (ho : g_depot_night_plan p_0 p_1 = some out) : Fun ktab 58 [.val (rPtr rdepot_night) p_0, .val rStablePlan p_1] [.val rBool (out)] := by
  refine fun_of (F := Try.f58) (by rfl) (by rfl) (by rfl) (fun C hC => ?_)
  delta g_depot_night_plan at ho
  refine r_seq ?_
  refine r_region ?_
  refine s_box (.n rfl) rfl rfl (.t rfl) ?_
  refine s_assign (.n rfl) rfl rfl .b ?_
  refine s_nilq rfl ?_
  refine r_seq ?_
  refine r_seq ?_
  obtain ⟨c6, hc6, ho⟩ := bnd ho
  refine r_cut (τ := (Bool)) (G := Unit) (fun t => (.normal, fun _ => ([(0, .val (rPtr rdepot_night) (p_0)), (3, .val (rPtr rStablePlan) (p_1)), (37, .val rBool (t))], []))) (t := c6) ?_ ?_
  · have ho := hc6
    clear hc6
    refine r_draw [] (by kernel_rfl) ?_
    refine s_fa F36_0 fk_StablePlan_0 (by decide) (.n rfl) rfl rfl (.t rfl) ?_
    refine s_load U22 (.n rfl) rfl rfl (.t rfl) ?_
    refine s_len S22 (.n rfl) rfl rfl rfl rfl rfl (.t rfl) ?_
    refine s_move (.n rfl) rfl rfl (.t rfl) ?_
    refine s_nilck (.n rfl) rfl rfl (.t rfl) ?_
    refine s_fa F89_1 fk_depot_night_1 (by decide) (.n rfl) rfl rfl (.t rfl) ?_
    refine s_load U32 (.n rfl) rfl rfl (.t rfl) ?_
    refine s_len S32 (.n rfl) rfl rfl rfl rfl rfl (.t rfl) ?_
    refine s_cmp (.n rfl) rfl rfl (.t rfl) (.t rfl) .neq ?_
    refine s_move (.n rfl) rfl rfl (.t rfl) ?_
    rcases Bool.eq_false_or_eq_true (((lenI p_1.1) != (lenI p_0.2.1))) with hb7 | hb7
    · have ho := cnd1 ho hb7
      refine s_skip (.g rfl rfl (gf1 hb7)) rfl ?_
      refine s_skip (.g rfl rfl (gf1 hb7)) rfl ?_
      refine s_skip (.g rfl rfl (gf1 hb7)) rfl ?_
      refine s_skip (.g rfl rfl (gf1 hb7)) rfl ?_
      refine s_skip (.g rfl rfl (gf1 hb7)) rfl ?_
      refine s_skip (.g rfl rfl (gf1 hb7)) rfl ?_
      refine s_skip (.g rfl rfl (gf1 hb7)) rfl ?_
      refine s_skip (.g rfl rfl (gf1 hb7)) rfl ?_
      refine s_skip (.g rfl rfl (gf1 hb7)) rfl ?_
      refine s_pk1 hb7 (.n rfl) rfl rfl (.t rfl) .b ?_
      refine s_move (.n rfl) rfl rfl (.t rfl) ?_
      refine s_skip (.g rfl rfl rfl) rfl ?_
      refine s_skip (.g rfl rfl rfl) rfl ?_
      refine s_skip (.g rfl rfl rfl) rfl ?_
      refine s_skip (.g rfl rfl rfl) rfl ?_
      refine s_pick1 (.n rfl) rfl rfl (.t rfl) .b ?_
      refine s_move (.n rfl) rfl rfl (.t rfl) ?_
      refine s_skip (.g rfl rfl rfl) rfl ?_
      refine s_skip (.g rfl rfl rfl) rfl ?_
      refine s_skip (.g rfl rfl rfl) rfl ?_
      refine s_pick1 (.n rfl) rfl rfl (.t rfl) .b ?_
      cases ho
      exact s_nil (fun fr h s => And.intro rfl (Exists.intro () (s.pick [] ⟨rfl, rfl, rfl, trivial⟩ rfl (by decide))))
    · have ho := cnd0 ho hb7
      refine s_fa F36_1 fk_StablePlan_1 (by decide) (.g rfl rfl (gf0 hb7)) rfl rfl (.t rfl) ?_
      refine s_load U22 (.g rfl rfl (gf0 hb7)) rfl rfl (.t rfl) ?_
      refine s_len S22 (.g rfl rfl (gf0 hb7)) rfl rfl rfl rfl rfl (.t rfl) ?_
      refine s_move (.g rfl rfl (gf0 hb7)) rfl rfl (.t rfl) ?_
      refine s_nilck (.g rfl rfl (gf0 hb7)) rfl rfl (.t rfl) ?_
      refine s_fa F89_1 fk_depot_night_1 (by decide) (.g rfl rfl (gf0 hb7)) rfl rfl (.t rfl) ?_
      refine s_load U32 (.g rfl rfl (gf0 hb7)) rfl rfl (.t rfl) ?_
      refine s_len S32 (.g rfl rfl (gf0 hb7)) rfl rfl rfl rfl rfl (.t rfl) ?_
      refine s_cmp (.g rfl rfl (gf0 hb7)) rfl rfl (.t rfl) (.t rfl) .neq ?_
      refine s_pk0 hb7 (.n rfl) rfl rfl (.t rfl) (.t rfl) ?_
      refine s_move (.n rfl) rfl rfl (.t rfl) ?_
      rcases Bool.eq_false_or_eq_true (((lenI p_1.2.1) != (lenI p_0.2.1))) with hb8 | hb8
      · have ho := cnd1 ho hb8
        refine s_skip (.g rfl rfl (gf1 hb8)) rfl ?_
        refine s_skip (.g rfl rfl (gf1 hb8)) rfl ?_
        refine s_skip (.g rfl rfl (gf1 hb8)) rfl ?_
        refine s_skip (.g rfl rfl (gf1 hb8)) rfl ?_
        refine s_pk1 hb8 (.n rfl) rfl rfl (.t rfl) .b ?_
        refine s_move (.n rfl) rfl rfl (.t rfl) ?_
        refine s_skip (.g rfl rfl rfl) rfl ?_
        refine s_skip (.g rfl rfl rfl) rfl ?_
        refine s_skip (.g rfl rfl rfl) rfl ?_
        refine s_pick1 (.n rfl) rfl rfl (.t rfl) .b ?_
        cases ho
        exact s_nil (fun fr h s => And.intro rfl (Exists.intro () (s.pick [] ⟨rfl, rfl, rfl, trivial⟩ rfl (by decide))))
      · have ho := cnd0 ho hb8
        refine s_fa F36_1 fk_StablePlan_1 (by decide) (.g rfl rfl (gf0 hb8)) rfl rfl (.t rfl) ?_
        refine s_load U22 (.g rfl rfl (gf0 hb8)) rfl rfl (.t rfl) ?_
        obtain ⟨y9, hy9, ho⟩ := bnd ho
        refine s_calll (g_depot_permutation_ok hy9) (.v flat_bool .n) rfl (.g rfl rfl (gf0 hb8)) rfl rfl rfl .f (.c (.o (.t rfl)) .n) ?_
        show SOps _ _ _ _ _ _ _ _
        refine s_not (.g rfl rfl (gf0 hb8)) rfl rfl (.t rfl) ?_
        refine s_pk0 hb8 (.n rfl) rfl rfl (.t rfl) (.t rfl) ?_
        refine s_move (.n rfl) rfl rfl (.t rfl) ?_
        rcases Bool.eq_false_or_eq_true ((!y9)) with hb10 | hb10
        · have ho := cnd1 ho hb10
          refine s_skip (.g rfl rfl (gf1 hb10)) rfl ?_
          refine s_skip (.g rfl rfl (gf1 hb10)) rfl ?_
          refine s_skip (.g rfl rfl (gf1 hb10)) rfl ?_
          refine s_pk1 hb10 (.n rfl) rfl rfl (.t rfl) .b ?_
          cases ho
          exact s_nil (fun fr h s => And.intro rfl (Exists.intro () (s.pick [] ⟨rfl, rfl, rfl, trivial⟩ rfl (by decide))))
        · have ho := cnd0 ho hb10
          refine s_move (.g rfl rfl (gf0 hb10)) rfl rfl (.t rfl) ?_
          obtain ⟨y11, hy11, ho⟩ := bnd ho
          refine s_calll (g_depot_night_quiet_ok hy11) (.v flat_bool .n) rfl (.g rfl rfl (gf0 hb10)) rfl rfl rfl .f (.c (.o (.t rfl)) .n) ?_
          show SOps _ _ _ _ _ _ _ _
          refine s_not (.g rfl rfl (gf0 hb10)) rfl rfl (.t rfl) ?_
          refine s_pk0 hb10 (.n rfl) rfl rfl (.t rfl) (.t rfl) ?_
          cases ho
          exact s_nil (fun fr h s => And.intro rfl (Exists.intro () (s.pick [] ⟨rfl, rfl, rfl, trivial⟩ rfl (by decide))))
  · intro _
    show SRun _ _ _ _ _ _
    refine r_cond (.t rfl) (fun hq12 => ?_) (fun hq12 => ?_)
    · have ho := cnd1 ho hq12
      refine r_seq ?_
      refine r_region ?_
      refine s_assign (.n rfl) rfl rfl .b ?_
      refine s_nilq rfl ?_
      cases ho
      exact r_ret (ret_of (.inr rfl) (.v rfl .n) (by decide))
    · have ho := cnd0 ho hq12
      refine r_skipq rfl ?_
      refine r_seq ?_
      refine r_seq ?_
      refine r_region ?_
      refine s_fa F36_0 fk_StablePlan_0 (by decide) (.n rfl) rfl rfl (.t rfl) ?_
      refine s_load U22 (.n rfl) rfl rfl (.t rfl) ?_
      refine s_len S22 (.n rfl) rfl rfl rfl rfl rfl (.t rfl) ?_
      refine s_move (.n rfl) rfl rfl (.i (by decide) (by decide)) ?_
      refine s_nilq rfl ?_
      refine r_block ?_
      obtain ⟨t39, ht39, ho⟩ := bnd ho
      refine r_loop (σ := (Int)) (τ := Unit ⊕ (Bool)) (G := List AVal) (fun s g => ([(0, .val (rPtr rdepot_night) (p_0)), (3, .val (rPtr rStablePlan) (p_1)), (39, .val (rSlice (rInt .i64)) (p_1.1)), (40, .val (rInt .i64) ((lenI p_1.1))), (41, .val (rInt .i64) (s))], [])) (altX (fun b => (.exit 0, fun g => ([(0, .val (rPtr rdepot_night) (p_0)), (3, .val (rPtr rStablePlan) (p_1))], []))) (fun b => (.ret, fun g => ([(4, .val rBool (b))], [])))) _ [] ht39 (fun fr h s => s.pick [] ⟨rfl, rfl, rfl, rfl, rfl, trivial⟩ rfl (by decide)) ?_ ?_ ?_
      · intro t
        rcases t with t | t
        · exact (show (.exit 0 : AExit) ≠ .normal from fun e => by cases e)
        · exact (show (.ret : AExit) ≠ .normal from fun e => by cases e)
      · clear ho
        intro s25 g26 r40 ho
        refine r_seq ?_
        refine r_region ?_
        refine s_cmp (.n rfl) rfl rfl (.t rfl) (.t rfl) .lss ?_
        refine s_nilq rfl ?_
        refine r_seq ?_
        refine r_cond (.t rfl) (fun hq27 => ?_) (fun hq27 => ?_)
        · have ho := cnd1 ho hq27
          refine r_skipq rfl ?_
          refine r_seq ?_
          refine r_block ?_
          refine r_seq ?_
          refine r_region ?_
          refine s_move (.n rfl) rfl rfl (.t rfl) ?_
          obtain ⟨x28, hx28, ho⟩ := bnd ho
          refine s_idx S22 hx28 (.n rfl) rfl rfl (.t rfl) (.t rfl) ?_
          refine s_load U3 (.n rfl) rfl rfl (.t rfl) ?_
          refine s_assign (.n rfl) rfl rfl (.t rfl) ?_
          refine s_assign (.n rfl) rfl rfl (.t rfl) ?_
          refine s_nilq rfl ?_
          refine r_seq ?_
          refine r_region ?_
          refine s_move (.n rfl) rfl rfl (.t rfl) ?_
          refine s_move (.n rfl) rfl rfl (.t rfl) ?_
          refine s_nilck (.n rfl) rfl rfl (.t rfl) ?_
          refine s_fa F89_0 fk_depot_night_0 (by decide) (.n rfl) rfl rfl (.t rfl) ?_
          refine s_load U31 (.n rfl) rfl rfl (.t rfl) ?_
          refine s_len S31 (.n rfl) rfl rfl rfl rfl rfl (.t rfl) ?_
          refine s_ar (.n rfl) rfl rfl (.t rfl) (.i (by decide) (by decide)) .sub ?_
          obtain ⟨y33, hy33, ho⟩ := bnd ho
          refine s_calll (g_depot_within_ok hy33) (.v flat_bool .n) rfl (.n rfl) rfl rfl rfl .f (.c (.o (.t rfl)) (.c (.o (.i (by decide) (by decide))) (.c (.o (.t rfl)) .n))) ?_
          show SOps _ _ _ _ _ _ _ _
          refine s_not (.n rfl) rfl rfl (.t rfl) ?_
          refine s_move (.n rfl) rfl rfl (.t rfl) ?_
          rcases Bool.eq_false_or_eq_true ((!y33)) with hb34 | hb34
          · have ho := cnd1 ho hb34
            refine s_skip (.g rfl rfl (gf1 hb34)) rfl ?_
            refine s_skip (.g rfl rfl (gf1 hb34)) rfl ?_
            refine s_skip (.g rfl rfl (gf1 hb34)) rfl ?_
            refine s_skip (.g rfl rfl (gf1 hb34)) rfl ?_
            refine s_skip (.g rfl rfl (gf1 hb34)) rfl ?_
            refine s_skip (.g rfl rfl (gf1 hb34)) rfl ?_
            refine s_skip (.g rfl rfl (gf1 hb34)) rfl ?_
            refine s_skip (.g rfl rfl (gf1 hb34)) rfl ?_
            refine s_skip (.g rfl rfl (gf1 hb34)) rfl ?_
            refine s_pk1 hb34 (.n rfl) rfl rfl (.t rfl) .b ?_
            refine s_nilq rfl ?_
            refine r_cond (.t rfl) (fun _ => ?_) (fun hq => by cases hq)
            refine r_seq ?_
            refine r_region ?_
            refine s_assign (.n rfl) rfl rfl .b ?_
            refine s_nilq rfl ?_
            cases ho
            exact r_ret (fun fr h s => And.intro rfl (Exists.intro [] (s.pick [] ⟨rfl, trivial⟩ rfl (by decide))))
          · have ho := cnd0 ho hb34
            refine s_move (.g rfl rfl (gf0 hb34)) rfl rfl (.t rfl) ?_
            refine s_move (.g rfl rfl (gf0 hb34)) rfl rfl (.t rfl) ?_
            refine s_fa F36_1 fk_StablePlan_1 (by decide) (.g rfl rfl (gf0 hb34)) rfl rfl (.t rfl) ?_
            refine s_load U22 (.g rfl rfl (gf0 hb34)) rfl rfl (.t rfl) ?_
            refine s_move (.g rfl rfl (gf0 hb34)) rfl rfl (.t rfl) ?_
            obtain ⟨x36, hx36, ho⟩ := bnd ho
            refine s_idx S22 hx36 (.g rfl rfl (gf0 hb34)) rfl rfl (.t rfl) (.t rfl) ?_
            refine s_load U3 (.g rfl rfl (gf0 hb34)) rfl rfl (.t rfl) ?_
            obtain ⟨y37, hy37, ho⟩ := bnd ho
            refine s_calll (g_depot_night_takes_ok hy37) (.v flat_bool .n) rfl (.g rfl rfl (gf0 hb34)) rfl rfl rfl .f (.c (.o (.t rfl)) (.c (.o (.t rfl)) (.c (.o (.t rfl)) .n))) ?_
            show SOps _ _ _ _ _ _ _ _
            refine s_not (.g rfl rfl (gf0 hb34)) rfl rfl (.t rfl) ?_
            refine s_pk0 hb34 (.n rfl) rfl rfl (.t rfl) (.t rfl) ?_
            refine s_nilq rfl ?_
            refine r_cond (.t rfl) (fun hq38 => ?_) (fun hq38 => ?_)
            · have ho := cnd1 ho hq38
              refine r_seq ?_
              refine r_region ?_
              refine s_assign (.n rfl) rfl rfl .b ?_
              refine s_nilq rfl ?_
              cases ho
              exact r_ret (fun fr h s => And.intro rfl (Exists.intro [] (s.pick [] ⟨rfl, trivial⟩ rfl (by decide))))
            · have ho := cnd0 ho hq38
              refine r_skipq rfl ?_
              refine r_region ?_
              refine s_ar (.n rfl) rfl rfl (.t rfl) (.i (by decide) (by decide)) .add ?_
              refine s_move (.n rfl) rfl rfl (.t rfl) ?_
              cases ho
              exact s_nil (fun fr h s => And.intro rfl (Exists.intro [] (s.pick [] ⟨rfl, rfl, rfl, rfl, rfl, trivial⟩ rfl (by decide))))
        · have ho := cnd0 ho hq27
          cases ho
          exact r_exit (fun fr h s => And.intro rfl (Exists.intro [] (s.pick [] ⟨rfl, rfl, trivial⟩ rfl (by decide))))
      · clear ht39
        rcases t39 with b41 | b42
        · have ho := alt_l ho
          intro g43
          show ∀ fr h, St _ [(0, .val (rPtr rdepot_night) (p_0)), (3, .val (rPtr rStablePlan) (p_1))] [] fr h → _
          show SRun _ _ _ _ _ _
          refine r_seq ?_
          refine r_region ?_
          refine s_move (.n rfl) rfl rfl (.t rfl) ?_
          refine s_fa F36_0 fk_StablePlan_0 (by decide) (.n rfl) rfl rfl (.t rfl) ?_
          refine s_load U22 (.n rfl) rfl rfl (.t rfl) ?_
          obtain ⟨y44, hy44, ho⟩ := bnd ho
          refine s_calll (g_depot_night_fit_ok hy44) (.v flat_bool .n) rfl (.n rfl) rfl rfl rfl .f (.c (.o (.t rfl)) (.c (.o (.t rfl)) .n)) ?_
          show SOps _ _ _ _ _ _ _ _
          refine s_assign (.n rfl) rfl rfl (.t rfl) ?_
          refine s_nilq rfl ?_
          cases ho
          exact r_ret (ret_of (.inr rfl) (.v rfl .n) (by decide))
        · have ho := alt_r ho
          intro g45
          show ∀ fr h, St _ [(4, .val rBool (b42))] [] fr h → _
          cases ho
          exact id (ret_of (.inr rfl) (.v rfl .n) (by decide))
theorem g_depot_Play_1_ok   {kind_0 : Int} {car_1 : Int} {p_2 : (List StableMove)} {p_3 : StablePlan} {out : ((List StableMove))} (ho : g_depot_Play_1 kind_0 car_1 p_2 p_3 = some out) (b_2 : Nat) (hv_2_0 : AVal) : FunM ktab 60 [.val (rInt .i64) kind_0, .val (rInt .i64) car_1, .raw (.ptr b_2 0), .val (rPtr rStablePlan) p_3] [(.ptr b_2 0, .box [.raw hv_2_0]), (hv_2_0, .row rStableMove (p_2))] [] (fun γ => [(.ptr b_2 0, .box [.raw ((gh γ 0))]), ((gh γ 0), .row rStableMove (out))]) := by
  refine funm_of (F := Try.f60) (by rfl) (by rfl) (by rfl) (fun C => ?_)
  delta g_depot_Play_1 at ho
  refine r_draw [0] (by kernel_rfl) ?_
  refine s_loadb 0 (fun _ h => by cases h <;> rfl) (U65).agg rfl (.n rfl) rfl rfl (.t rfl) rfl ?_
  refine s_move (.n rfl) rfl rfl (.t rfl) ?_
  refine s_move (.n rfl) rfl rfl (.t rfl) ?_
  refine s_fa F36_0 fk_StablePlan_0 (by decide) (.n rfl) rfl rfl (.t rfl) ?_
  refine s_load U22 (.n rfl) rfl rfl (.t rfl) ?_
  refine s_move (.n rfl) rfl rfl (.t rfl) ?_
  obtain ⟨x1, hx1, ho⟩ := bnd ho
  refine s_idx S22 hx1 (.n rfl) rfl rfl (.t rfl) (.t rfl) ?_
  refine s_load U3 (.n rfl) rfl rfl (.t rfl) ?_
  refine s_build (R := rStableMove) B71 (.n rfl) rfl rfl rfl (.p (.t rfl) rfl (.p (.t rfl) rfl (.p (.t rfl) rfl (.n rfl)))) ?_
  refine s_bs (R := rStableMove) S65 Y71 (.n rfl) rfl rfl (.c (.t rfl) .n) rfl (by decide) ?_
  obtain ⟨x2, hx2, ho⟩ := bnd ho
  refine s_app 1 S65 Y71 hx2 (.n rfl) rfl rfl rfl rfl rfl (.t rfl) rfl (.t rfl) rfl ?_
  intro v3
  refine s_storebo 1 0 (U65).sz rfl rfl (by exact Nat.le_of_ble_eq_true rfl) (.n rfl) rfl rfl (.t rfl) (.t rfl) (by rfl) ?_
  cases ho
  exact s_nil (retm_of [1, 0] [v3] (.inl rfl) .n rfl (by decide))
theorem g_depot_night_leave_1_1_ok {i_0 : Int} {p_1 : (List Bool)} {out : (Bool)} (ho : g_depot_night_leave_1_1 i_0 p_1 = some out) : Fun ktab 79 [.val (rInt .i64) i_0, .val (rPtr (rSlice rBool)) p_1] [.val rBool (out)] := by
  refine fun_of (F := Try.f79) (by rfl) (by rfl) (by rfl) (fun C hC => ?_)
  delta g_depot_night_leave_1_1 at ho
  refine r_seq ?_
  refine r_region ?_
  refine s_assign (.n rfl) rfl rfl .b ?_
  refine s_nilq rfl ?_
  refine r_seq ?_
  refine r_region ?_
  refine s_load U84 (.n rfl) rfl rfl (.t rfl) ?_
  refine s_move (.n rfl) rfl rfl (.t rfl) ?_
  obtain ⟨x1, hx1, ho⟩ := bnd ho
  refine s_idx S84 hx1 (.n rfl) rfl rfl (.t rfl) (.t rfl) ?_
  refine s_load U4 (.n rfl) rfl rfl (.t rfl) ?_
  refine s_assign (.n rfl) rfl rfl (.t rfl) ?_
  refine s_nilq rfl ?_
  cases ho
  exact r_ret (ret_of (.inr rfl) (.v rfl .n) (by decide))
theorem g_depot_night_leave_1_okm {σ τ : Type} {step : σ → (Int × (List Int)) → Option (σ ⊕ τ)} {yv : AVal} {K : σ ⊕ τ → List AVal → Sx.Obj} (hcb : CbAt ktab yv (fun x => [.val (rInt .i64) (x.1), .val (rSlice (rInt .i64)) (x.2)]) step K) {s_ : σ} {p_1 : depot_night} {p_2 : StablePlan} {out : ((σ ⊕ τ))} (ho : g_depot_night_leave_1 step s_ p_1 p_2 = some out) (γ0 : List AVal) : FunM ktab 78 [.raw yv, .val (rPtr (rPtr rdepot_night)) p_1, .val (rPtr rStablePlan) p_2] [(yv, K (.inl s_) γ0)] [] (fun γ => [(yv, K (out) (untup (gh γ 0)))]) := by
  refine funm_of (F := Try.f78) (by rfl) (by rfl) (by rfl) (fun C => ?_)
  delta g_depot_night_leave_1 at ho
  refine r_seq ?_
  refine r_region ?_
  refine s_load U87 (.n rfl) rfl rfl (.t rfl) ?_
  refine s_nilck (.n rfl) rfl rfl (.t rfl) ?_
  refine s_fa F89_1 fk_depot_night_1 (by decide) (.n rfl) rfl rfl (.t rfl) ?_
  refine s_load U32 (.n rfl) rfl rfl (.t rfl) ?_
  refine s_len S32 (.n rfl) rfl rfl rfl rfl rfl (.t rfl) ?_
  obtain ⟨x1, hx1, ho⟩ := bnd ho
  refine s_mk S84 Y4 Z4 hx1 (.n rfl) rfl rfl (.t rfl) (.t rfl) ?_
  intro v2
  refine s_st (st_nilrow rBool) ?_
  refine s_alloc (zv := .nilslice) (es := [.raw .nilslice]) (by kernel_rfl) (fun _ => (okraw okn)) rfl (.n rfl) rfl rfl ?_
  intro b5
  refine s_storebo 0 2 (U84).sz rfl rfl (by exact Nat.le_of_ble_eq_true rfl) (.n rfl) rfl rfl (.t rfl) (.t rfl) (by rfl) ?_
  refine s_nilq rfl ?_
  refine r_seq ?_
  refine r_region ?_
  refine s_load U87 (.n rfl) rfl rfl (.t rfl) ?_
  refine s_nilck (.n rfl) rfl rfl (.t rfl) ?_
  refine s_fa F89_2 fk_depot_night_2 (by decide) (.n rfl) rfl rfl (.t rfl) ?_
  refine s_load U33 (.n rfl) rfl rfl (.t rfl) ?_
  refine s_len S33 (.n rfl) rfl rfl rfl rfl rfl (.t rfl) ?_
  refine s_move (.n rfl) rfl rfl (.i (by decide) (by decide)) ?_
  refine s_nilq rfl ?_
  refine r_block ?_
  obtain ⟨t47, ht47, ho⟩ := bnd ho
  refine r_loop (σ := (Int × (List Bool) × (σ ⊕ τ))) (τ := ((List Bool) × (σ ⊕ τ)) ⊕ (((List Bool) × (σ ⊕ τ)))) (G := List AVal) (fun s g => ([(0, .raw yv), (1, .val (rPtr (rPtr rdepot_night)) (p_1)), (2, .val (rPtr rStablePlan) (p_2)), (4, .raw (.ptr b5 0)), (17, .val (rInt .i64) ((lenI p_1.2.2.1))), (18, .val (rInt .i64) (s.1))], [(.ptr b5 0, .box [.raw ((gh g 0))]), (yv, K s.2.2 ((untup (gh g 1)))), ((gh g 0), .row rBool (s.2.1))])) (altX (fun b => (.exit 0, fun g => ([], [(yv, K b.2 ((untup (gh g 1))))]))) (fun b => (.ret, fun g => ([], [(yv, K b.2 ((untup (gh g 1))))])))) _ [v2, .tuple γ0] ht47 (fun fr h s => s.pick [0, 3, 2] ⟨rfl, rfl, rfl, rfl, rfl, rfl, trivial⟩ rfl (by decide)) ?_ ?_ ?_
  · intro t
    rcases t with t | t
    · exact (show (.exit 0 : AExit) ≠ .normal from fun e => by cases e)
    · exact (show (.ret : AExit) ≠ .normal from fun e => by cases e)
  · clear ho
    intro s28 g29 r48 ho
    refine r_seq ?_
    refine r_region ?_
    refine s_cmp (.n rfl) rfl rfl (.t rfl) (.t rfl) .lss ?_
    refine s_nilq rfl ?_
    refine r_seq ?_
    refine r_cond (.t rfl) (fun hq34 => ?_) (fun hq34 => ?_)
    · have ho := cnd1 ho hq34
      refine r_skipq rfl ?_
      refine r_seq ?_
      refine r_block ?_
      refine r_seq ?_
      refine r_region ?_
      refine s_move (.n rfl) rfl rfl (.t rfl) ?_
      refine s_assign (.n rfl) rfl rfl (.t rfl) ?_
      refine s_nilq rfl ?_
      refine r_seq ?_
      refine r_region ?_
      refine s_fa F36_1 fk_StablePlan_1 (by decide) (.n rfl) rfl rfl (.t rfl) ?_
      refine s_load U22 (.n rfl) rfl rfl (.t rfl) ?_
      refine s_move (.n rfl) rfl rfl (.t rfl) ?_
      obtain ⟨y35, hy35, ho⟩ := bnd ho
      refine s_calll (g_slices_Index_int_int_ok hy35) (.v flat_int .n) rfl (.n rfl) rfl rfl rfl .f (.c (.o (.t rfl)) (.c (.o (.t rfl)) .n)) ?_
      show SOps _ _ _ _ _ _ _ _
      refine s_assign (.n rfl) rfl rfl (.t rfl) ?_
      refine s_nilq rfl ?_
      refine r_seq ?_
      refine r_seq ?_
      refine r_region ?_
      refine s_move (.n rfl) rfl rfl (.t rfl) ?_
      refine s_move (.n rfl) rfl rfl (.t rfl) ?_
      refine s_load U87 (.n rfl) rfl rfl (.t rfl) ?_
      refine s_fa F36_0 fk_StablePlan_0 (by decide) (.n rfl) rfl rfl (.t rfl) ?_
      refine s_load U22 (.n rfl) rfl rfl (.t rfl) ?_
      refine s_move (.n rfl) rfl rfl (.t rfl) ?_
      refine s_mkclo (.n rfl) rfl rfl .n (.c (.t rfl) .n) ?_
      obtain ⟨y36, hy36, ho⟩ := bnd ho
      refine s_calllk (g_depot_night_aside_ok hy36) (.r flat_int .n) rfl (.n rfl) rfl rfl rfl .f (.c (lend_of (.o (.t rfl))) (.c (lend_of (.o (.t rfl))) (.c (lend_of (.o (.t rfl))) (.c (lend_clo (X := (Int)) (Y := (Bool)) (ins := (fun x => [.val (rInt .i64) (x)])) (outs := (fun y => [.val rBool (y)])) (f := (fun x => g_depot_night_leave_1_1 x s28.2.1)) (.t rfl) rfl (.c (cap_boxrow 0 2 rfl rfl) .n) (fun x y hf => g_depot_night_leave_1_1_ok hf)) .n)))) ?_
      intro v37
      show SOps _ _ _ _ _ _ _ _
      refine s_st (st_freeze 0 [32] rfl rfl ⟨rfl, trivial⟩) ?_
      obtain ⟨s39, hs39, ho⟩ := bnd ho
      refine s_st (st_cbl (K := K) 1 (goL_inv hs39) rfl rfl) ?_
      obtain ⟨y40, hy40, ho⟩ := bnd ho
      refine s_cally [1] [0, 2] (fun _ h => by cases h) hcb hy40 rfl rfl rfl (by decide) (.n rfl) rfl rfl rfl (.t rfl) (.c (.t rfl) (.c (.t rfl) .n)) ?_
      intro v41
      refine s_not (.n rfl) rfl rfl (.t rfl) ?_
      refine s_nilq rfl ?_
      refine r_cond (.t rfl) (fun hq42 => ?_) (fun hq42 => ?_)
      · have ho := cnd1 ho hq42
        cases ho
        exact r_ret (fun fr h s => And.intro rfl (Exists.intro [(gh g29 0), .tuple v41] (s.pick [0] trivial rfl (by decide))))
      · have ho := cnd0 ho hq42
        refine r_skipq rfl ?_
        refine r_region ?_
        refine s_loadb 1 (fun _ h => by cases h <;> rfl) (U84).agg rfl (.n rfl) rfl rfl (.t rfl) rfl ?_
        refine s_move (.n rfl) rfl rfl (.t rfl) ?_
        obtain ⟨x44, hx44, ho⟩ := bnd ho
        refine s_idxo 2 S84 hx44 (.n rfl) rfl rfl (.t rfl) rfl (.t rfl) ?_
        refine s_storeo 2 U4 FOk.self (idx_inv hx44).2.2.2 (.n rfl) rfl rfl (.t rfl) .b rfl rfl ?_
        refine s_nilq rfl ?_
        refine r_region ?_
        refine s_ar (.n rfl) rfl rfl (.t rfl) (.i (by decide) (by decide)) .add ?_
        refine s_move (.n rfl) rfl rfl (.t rfl) ?_
        cases ho
        exact s_nil (fun fr h s => And.intro rfl (Exists.intro [(gh g29 0), .tuple v41] (s.pick [1, 0, 2] ⟨rfl, rfl, rfl, rfl, rfl, rfl, trivial⟩ rfl (by decide))))
    · have ho := cnd0 ho hq34
      cases ho
      exact r_exit (fun fr h s => And.intro rfl (Exists.intro [(gh g29 0), .tuple ((untup (gh g29 1)))] (s.pick [1] trivial rfl (by decide))))
  · clear ht47
    rcases t47 with b49 | b50
    · have ho := alt_l ho
      intro g51
      show ∀ fr h, St _ [] [(yv, K b49.2 ((untup (gh g51 1))))] fr h → _
      cases ho
      exact id (retm_of [0] [.tuple ((untup (gh g51 1)))] (.inl rfl) .n rfl (by decide))
    · have ho := alt_r ho
      intro g53
      show ∀ fr h, St _ [] [(yv, K b50.2 ((untup (gh g53 1))))] fr h → _
      cases ho
      exact id (retm_of [0] [.tuple ((untup (gh g53 1)))] (.inr rfl) .n rfl (by decide))
theorem g_depot_night_leave_1_ok {σ τ : Type} {step : σ → (Int × (List Int)) → Option (σ ⊕ τ)} {yv : AVal} {K : σ ⊕ τ → List AVal → Sx.Obj} (hcb : CbAt ktab yv (fun x => [.val (rInt .i64) (x.1), .val (rSlice (rInt .i64)) (x.2)]) step K) {s_ : σ} {p_1 : depot_night} {p_2 : StablePlan} {out : ((σ ⊕ τ))} (ho : g_depot_night_leave_1 step s_ p_1 p_2 = some out) (γ0 : List AVal) : FunM ktab 78 [.raw yv, .val (rPtr (rPtr rdepot_night)) p_1, .val (rPtr rStablePlan) p_2] [(yv, K (.inl s_) γ0)] [] (fun γ => [(yv, K (out) γ)]) :=
  funm_gh (g_depot_night_leave_1_okm hcb ho γ0)
theorem g_depot_night_leave_ok {n_0 : depot_night} {p_1 : StablePlan} {out : ((depot_night × StablePlan))} (ho : g_depot_night_leave n_0 p_1 = some out) : Fun ktab 61 [.val (rPtr rdepot_night) n_0, .val rStablePlan p_1] [.val (rClo 78 [] [.val (rPtr (rPtr rdepot_night)) (out.1), .val (rPtr rStablePlan) (out.2)]) ()] := by
  refine fun_of (F := Try.f61) (by rfl) (by rfl) (by rfl) (fun C hC => ?_)
  delta g_depot_night_leave at ho
  refine r_seq ?_
  refine r_region ?_
  refine s_box (.n rfl) rfl rfl (.t rfl) ?_
  refine s_box (.n rfl) rfl rfl (.t rfl) ?_
  refine s_pure rfl (.n rfl) rfl (e := .raw .nilfunc) (fun z fr h s => ⟨_, rfl, by simp only [TE.ok]; rfl⟩) ?_
  refine s_nilq rfl ?_
  refine r_seq ?_
  refine r_region ?_
  refine s_mkclo (.n rfl) rfl rfl .n (.c (.t rfl) (.c (.t rfl) .n)) ?_
  refine s_assign (.n rfl) rfl rfl (.t rfl) ?_
  refine s_nilq rfl ?_
  cases ho
  exact r_ret (ret_of (.inr rfl) (.v rfl .n) (by decide))
theorem g_depot_Play_ok {tracks_0 : (List StableTrack)} {cars_1 : (List StableCar)} {leaves_2 : (List StableLeave)} {p_3 : StablePlan} {out : ((List StableMove) × Int)} (ho : g_depot_Play tracks_0 cars_1 leaves_2 p_3 = some out) : Fun ktab 32 [.val (rSlice rStableTrack) tracks_0, .val (rSlice rStableCar) cars_1, .val (rSlice rStableLeave) leaves_2, .val rStablePlan p_3] [.row rStableMove (out.1), .val (rInt .i64) (out.2)] := by
  refine fun_of (F := Try.f32) (by rfl) (by rfl) (by rfl) (fun C hC => ?_)
  delta g_depot_Play at ho
  refine r_seq ?_
  refine r_region ?_
  refine s_box (.n rfl) rfl rfl (.t rfl) ?_
  refine s_st (st_nilrow rStableMove) ?_
  refine s_assign (.n rfl) rfl rfl .nilr ?_
  refine s_assign (.n rfl) rfl rfl (.i (by decide) (by decide)) ?_
  refine s_nilq rfl ?_
  refine r_seq ?_
  refine r_region ?_
  refine s_move (.n rfl) rfl rfl (.t rfl) ?_
  refine s_move (.n rfl) rfl rfl (.t rfl) ?_
  refine s_move (.n rfl) rfl rfl (.t rfl) ?_
  refine s_build (R := rdepot_night) B89 (.n rfl) rfl rfl rfl (.p (.t rfl) rfl (.p (.t rfl) rfl (.p (.t rfl) rfl (.n rfl)))) ?_
  refine s_box (.n rfl) rfl rfl (.t rfl) ?_
  refine s_assign (.n rfl) rfl rfl (.t rfl) ?_
  refine s_nilq rfl ?_
  refine r_seq ?_
  refine r_seq ?_
  obtain ⟨c5, hc5, ho⟩ := bnd ho
  refine r_cut (τ := (Bool)) (G := Unit) (fun t => (.normal, fun _ => ([(1, .val (rSlice rStableCar) (cars_1)), (7, .val (rPtr rStablePlan) (p_3)), (10, .val (rPtr rdepot_night) (((tracks_0, cars_1, leaves_2, ()) : depot_night))), (31, .val rBool (t))], [(.nilslice, .row rStableMove ([]))]))) (t := c5) ?_ ?_
  · have ho := hc5
    clear hc5
    refine r_region ?_
    refine s_move (.n rfl) rfl rfl (.t rfl) ?_
    obtain ⟨y6, hy6, ho⟩ := bnd ho
    refine s_calll (g_depot_night_valid_ok hy6) (.v flat_bool .n) rfl (.n rfl) rfl rfl rfl .f (.c (.o (.t rfl)) .n) ?_
    show SOps _ _ _ _ _ _ _ _
    refine s_not (.n rfl) rfl rfl (.t rfl) ?_
    refine s_move (.n rfl) rfl rfl (.t rfl) ?_
    rcases Bool.eq_false_or_eq_true ((!y6)) with hb7 | hb7
    · have ho := cnd1 ho hb7
      refine s_skip (.g rfl rfl (gf1 hb7)) rfl ?_
      refine s_skip (.g rfl rfl (gf1 hb7)) rfl ?_
      refine s_skip (.g rfl rfl (gf1 hb7)) rfl ?_
      refine s_skip (.g rfl rfl (gf1 hb7)) rfl ?_
      refine s_pk1 hb7 (.n rfl) rfl rfl (.t rfl) .b ?_
      cases ho
      exact s_nil (fun fr h s => And.intro rfl (Exists.intro () (s.pick [0] ⟨rfl, rfl, rfl, rfl, trivial⟩ rfl (by decide))))
    · have ho := cnd0 ho hb7
      refine s_move (.g rfl rfl (gf0 hb7)) rfl rfl (.t rfl) ?_
      refine s_load U36 (.g rfl rfl (gf0 hb7)) rfl rfl (.t rfl) ?_
      obtain ⟨y8, hy8, ho⟩ := bnd ho
      refine s_calll (g_depot_night_plan_ok hy8) (.v flat_bool .n) rfl (.g rfl rfl (gf0 hb7)) rfl rfl rfl .f (.c (.o (.t rfl)) (.c (.o (.t rfl)) .n)) ?_
      show SOps _ _ _ _ _ _ _ _
      refine s_not (.g rfl rfl (gf0 hb7)) rfl rfl (.t rfl) ?_
      refine s_pk0 hb7 (.n rfl) rfl rfl (.t rfl) (.t rfl) ?_
      cases ho
      exact s_nil (fun fr h s => And.intro rfl (Exists.intro () (s.pick [0] ⟨rfl, rfl, rfl, rfl, trivial⟩ rfl (by decide))))
  · intro _
    show SRun _ _ _ _ _ _
    refine r_cond (.t rfl) (fun hq9 => ?_) (fun hq9 => ?_)
    · have ho := cnd1 ho hq9
      refine r_seq ?_
      refine r_region ?_
      refine s_st (st_nilrow rStableMove) ?_
      refine s_assign (.n rfl) rfl rfl .nilr ?_
      refine s_assign (.n rfl) rfl rfl (.i (by decide) (by decide)) ?_
      refine s_nilq rfl ?_
      cases ho
      exact r_ret (ret_of (.inr rfl) (.r 0 rfl rfl (.v rfl .n)) (by decide))
    · have ho := cnd0 ho hq9
      refine r_skipq rfl ?_
      refine r_seq ?_
      refine r_region ?_
      refine s_st (st_nilrow rStableMove) ?_
      refine s_alloc (zv := .nilslice) (es := [.raw .nilslice]) (by kernel_rfl) (fun _ => (okraw okn)) rfl (.n rfl) rfl rfl ?_
      intro b12
      refine s_nilq rfl ?_
      refine r_seq ?_
      refine r_region ?_
      refine s_mkclo (.n rfl) rfl rfl .n (.c (.t rfl) (.c (.t rfl) .n)) ?_
      refine s_alloc (zv := .nilfunc) (es := [.raw (.nilfunc)]) (by kernel_rfl) (fun _ => (okraw okn)) rfl (.n rfl) rfl rfl ?_
      intro b14
      refine s_storeb 0 (UR108).sz rfl (by exact Nat.le_of_ble_eq_true rfl) (.n rfl) rfl rfl (.t rfl) (.t rfl) rfl rfl ?_
      refine s_nilq rfl ?_
      refine r_seq ?_
      refine r_seq ?_
      refine r_region ?_
      refine s_move (.n rfl) rfl rfl (.t rfl) ?_
      refine s_len S32 (.n rfl) rfl rfl rfl rfl rfl (.t rfl) ?_
      refine s_move (.n rfl) rfl rfl (.i (by decide) (by decide)) ?_
      refine s_nilq rfl ?_
      refine r_block ?_
      obtain ⟨t34, ht34, ho⟩ := bnd ho
      refine r_loop (σ := (Int × (List StableMove))) (τ := ((List StableMove))) (G := List AVal) (fun s g => ([(7, .val (rPtr rStablePlan) (p_3)), (10, .val (rPtr rdepot_night) (((tracks_0, cars_1, leaves_2, ()) : depot_night))), (11, .raw (.ptr b12 0)), (12, .raw (.ptr b14 0)), (34, .val (rInt .i64) ((lenI cars_1))), (35, .val (rInt .i64) (s.1))], [(.ptr b14 0, .box [.val (rClo 60 [] [.raw (.ptr b12 0), .val (rPtr rStablePlan) (p_3)]) ()]), (.ptr b12 0, .box [.raw ((gh g 0))]), ((gh g 0), .row rStableMove (s.2))])) (fun b => (.exit 0, fun g => ([(7, .val (rPtr rStablePlan) (p_3)), (10, .val (rPtr rdepot_night) (((tracks_0, cars_1, leaves_2, ()) : depot_night))), (11, .raw (.ptr b12 0)), (12, .raw (.ptr b14 0))], [(.ptr b14 0, .box [.val (rClo 60 [] [.raw (.ptr b12 0), .val (rPtr rStablePlan) (p_3)]) ()]), (.ptr b12 0, .box [.raw ((gh g 0))]), ((gh g 0), .row rStableMove (b))]))) _ [.nilslice] ht34 (fun fr h s => s.pick [0, 1, 2] ⟨rfl, rfl, rfl, rfl, rfl, rfl, trivial⟩ rfl (by decide)) ?_ ?_ ?_
      · intro t
        exact (show (.exit 0 : AExit) ≠ .normal from fun e => by cases e)
      · clear ho
        intro s24 g25 r35 ho
        refine r_seq ?_
        refine r_region ?_
        refine s_cmp (.n rfl) rfl rfl (.t rfl) (.t rfl) .lss ?_
        refine s_nilq rfl ?_
        refine r_seq ?_
        refine r_cond (.t rfl) (fun hq29 => ?_) (fun hq29 => ?_)
        · have ho := cnd1 ho hq29
          refine r_skipq rfl ?_
          refine r_seq ?_
          refine r_block ?_
          refine r_seq ?_
          refine r_region ?_
          refine s_move (.n rfl) rfl rfl (.t rfl) ?_
          refine s_assign (.n rfl) rfl rfl (.t rfl) ?_
          refine s_nilq rfl ?_
          refine r_region ?_
          refine s_loadb 0 (fun _ h => by cases h <;> rfl) (UR108).agg rfl (.n rfl) rfl rfl (.t rfl) rfl ?_
          refine s_move (.n rfl) rfl rfl (.t rfl) ?_
          obtain ⟨y30, hy30, ho⟩ := bnd ho
          refine s_callcd (ps := []) (es := [.val (rInt .i64) (1), .val (rInt .i64) (s24.1)]) (cs := [.raw (.ptr b12 0), .val (rPtr rStablePlan) (p_3)]) [1, 2] [0] (fun _ h => by cases h) (g_depot_Play_1_ok hy30 b12 ((gh g25 0))) rfl rfl (by decide) rfl (.n rfl) rfl rfl rfl (.t rfl) (.c (.i (by decide) (by decide)) (.c (.t rfl) .n)) ?_
          intro g31
          show SOps _ _ _ _ _ _ _ _
          refine s_nilq rfl ?_
          refine r_region ?_
          refine s_ar (.n rfl) rfl rfl (.t rfl) (.i (by decide) (by decide)) .add ?_
          refine s_move (.n rfl) rfl rfl (.t rfl) ?_
          cases ho
          exact s_nil (fun fr h s => And.intro rfl (Exists.intro [(gh g31 0)] (s.pick [2, 0, 1] ⟨rfl, rfl, rfl, rfl, rfl, rfl, trivial⟩ rfl (by decide))))
        · have ho := cnd0 ho hq29
          cases ho
          exact r_exit (fun fr h s => And.intro rfl (Exists.intro [(gh g25 0)] (s.pick [0, 1, 2] ⟨rfl, rfl, rfl, rfl, trivial⟩ rfl (by decide))))
      · intro g36
        show ∀ fr h, St _ [(7, .val (rPtr rStablePlan) (p_3)), (10, .val (rPtr rdepot_night) (((tracks_0, cars_1, leaves_2, ()) : depot_night))), (11, .raw (.ptr b12 0)), (12, .raw (.ptr b14 0))] [(.ptr b14 0, .box [.val (rClo 60 [] [.raw (.ptr b12 0), .val (rPtr rStablePlan) (p_3)]) ()]), (.ptr b12 0, .box [.raw ((gh g36 0))]), ((gh g36 0), .row rStableMove (t34))] fr h → _
        show SRun _ _ _ _ _ _
        refine r_seq ?_
        refine r_seq ?_
        refine r_region ?_
        refine s_move (.n rfl) rfl rfl (.t rfl) ?_
        refine s_load U36 (.n rfl) rfl rfl (.t rfl) ?_
        obtain ⟨y38, hy38, ho⟩ := bnd ho
        refine s_call (pre := []) (post := []) (vs := []) (g_depot_night_leave_ok hy38) rfl (.n rfl) rfl rfl rfl .f (.c (.t rfl) (.c (.t rfl) .n)) ?_
        show SOps _ _ _ _ _ _ _ _
        refine s_nilq rfl ?_
        refine r_block ?_
        obtain ⟨t129, ht129, ho⟩ := bnd ho
        refine r_range (σ := ((List StableMove))) (τ := Unit) (X := (Int × (List Int))) (ins := (fun x => [.val (rInt .i64) (x.1), .val (rSlice (rInt .i64)) (x.2)])) (altO (fun s g => [(.ptr b14 0, .box [.val (rClo 60 [] [.raw (.ptr b12 0), .val (rPtr rStablePlan) (p_3)]) ()]), (.ptr b12 0, .box [.raw ((gh g 0))]), ((gh g 0), .row rStableMove (s))]) (fun _ _ => [])) (fun _ => none) (s0 := t34) (r := t129) [(gh g36 0)] [0, 1, 2] [] rfl (.t rfl) rfl rfl (by decide) (fun _ => rfl) (fun yv K hcb γ => g_depot_night_leave_1_ok hcb ht129 γ) ?_ ?_
        · clear ho ht129
          intro s98 g99 x39 r130 ho C
          refine r_seq ?_
          refine r_region ?_
          refine s_assign (.n rfl) rfl rfl (.t rfl) ?_
          refine s_nilq rfl ?_
          refine r_region ?_
          refine s_assign (.n rfl) rfl rfl (.t rfl) ?_
          refine s_nil (fun fr h s => And.intro rfl (Exists.intro _ (Exists.intro _ (And.intro s (fun C => ?_)))))
          refine r_block ?_
          refine r_seq ?_
          refine r_seq ?_
          refine r_region ?_
          refine s_move (.n rfl) rfl rfl (.t rfl) ?_
          refine s_len S22 (.n rfl) rfl rfl rfl rfl rfl (.t rfl) ?_
          refine s_move (.n rfl) rfl rfl (.i (by decide) (by decide)) ?_
          refine s_nilq rfl ?_
          refine r_block ?_
          obtain ⟨t122, ht122, ho⟩ := bnd ho
          refine r_loop (σ := (Int × (List StableMove))) (τ := ((List StableMove))) (G := List AVal) (fun s g => ([(12, .raw (.ptr b14 0)), (14, .val (rInt .i64) (x39.1)), (47, .val (rSlice (rInt .i64)) (x39.2)), (48, .val (rInt .i64) ((lenI x39.2))), (49, .val (rInt .i64) (s.1))], [(.ptr b14 0, .box [.val (rClo 60 [] [.raw (.ptr b12 0), .val (rPtr rStablePlan) (p_3)]) ()]), (.ptr b12 0, .box [.raw ((gh g 0))]), ((gh g 0), .row rStableMove (s.2))])) (fun b => (.exit 4, fun g => ([(12, .raw (.ptr b14 0)), (14, .val (rInt .i64) (x39.1))], [(.ptr b14 0, .box [.val (rClo 60 [] [.raw (.ptr b12 0), .val (rPtr rStablePlan) (p_3)]) ()]), (.ptr b12 0, .box [.raw ((gh g 0))]), ((gh g 0), .row rStableMove (b))]))) _ [(gh g99 0)] ht122 (fun fr h s => s.pick [0, 1, 2] ⟨rfl, rfl, rfl, rfl, rfl, trivial⟩ rfl (by decide)) ?_ ?_ ?_
          · intro t
            exact (show (.exit 4 : AExit) ≠ .normal from fun e => by cases e)
          · clear ho
            intro s111 g112 r123 ho
            refine r_seq ?_
            refine r_region ?_
            refine s_cmp (.n rfl) rfl rfl (.t rfl) (.t rfl) .lss ?_
            refine s_nilq rfl ?_
            refine r_seq ?_
            refine r_cond (.t rfl) (fun hq116 => ?_) (fun hq116 => ?_)
            · have ho := cnd1 ho hq116
              refine r_skipq rfl ?_
              refine r_seq ?_
              refine r_block ?_
              refine r_seq ?_
              refine r_region ?_
              obtain ⟨x117, hx117, ho⟩ := bnd ho
              refine s_idx S22 hx117 (.n rfl) rfl rfl (.t rfl) (.t rfl) ?_
              refine s_load U3 (.n rfl) rfl rfl (.t rfl) ?_
              refine s_assign (.n rfl) rfl rfl (.t rfl) ?_
              refine s_nilq rfl ?_
              refine r_region ?_
              refine s_loadb 0 (fun _ h => by cases h <;> rfl) (UR108).agg rfl (.n rfl) rfl rfl (.t rfl) rfl ?_
              refine s_move (.n rfl) rfl rfl (.t rfl) ?_
              obtain ⟨y118, hy118, ho⟩ := bnd ho
              refine s_callcd (ps := []) (es := [.val (rInt .i64) (2), .val (rInt .i64) (x117)]) (cs := [.raw (.ptr b12 0), .val (rPtr rStablePlan) (p_3)]) [1, 2] [0] (fun _ h => by cases h) (g_depot_Play_1_ok hy118 b12 ((gh g112 0))) rfl rfl (by decide) rfl (.n rfl) rfl rfl rfl (.t rfl) (.c (.i (by decide) (by decide)) (.c (.t rfl) .n)) ?_
              intro g119
              show SOps _ _ _ _ _ _ _ _
              refine s_nilq rfl ?_
              refine r_region ?_
              refine s_ar (.n rfl) rfl rfl (.t rfl) (.i (by decide) (by decide)) .add ?_
              refine s_move (.n rfl) rfl rfl (.t rfl) ?_
              cases ho
              exact s_nil (fun fr h s => And.intro rfl (Exists.intro [(gh g119 0)] (s.pick [2, 0, 1] ⟨rfl, rfl, rfl, rfl, rfl, trivial⟩ rfl (by decide))))
            · have ho := cnd0 ho hq116
              cases ho
              exact r_exit (fun fr h s => And.intro rfl (Exists.intro [(gh g112 0)] (s.pick [0, 1, 2] ⟨rfl, rfl, trivial⟩ rfl (by decide))))
          · intro g124
            show ∀ fr h, St _ [(12, .raw (.ptr b14 0)), (14, .val (rInt .i64) (x39.1))] [(.ptr b14 0, .box [.val (rClo 60 [] [.raw (.ptr b12 0), .val (rPtr rStablePlan) (p_3)]) ()]), (.ptr b12 0, .box [.raw ((gh g124 0))]), ((gh g124 0), .row rStableMove (t122))] fr h → _
            show SRun _ _ _ _ _ _
            refine r_region ?_
            refine s_loadb 0 (fun _ h => by cases h <;> rfl) (UR108).agg rfl (.n rfl) rfl rfl (.t rfl) rfl ?_
            refine s_move (.n rfl) rfl rfl (.t rfl) ?_
            obtain ⟨y126, hy126, ho⟩ := bnd ho
            refine s_callcd (ps := []) (es := [.val (rInt .i64) (3), .val (rInt .i64) (x39.1)]) (cs := [.raw (.ptr b12 0), .val (rPtr rStablePlan) (p_3)]) [1, 2] [0] (fun _ h => by cases h) (g_depot_Play_1_ok hy126 b12 ((gh g124 0))) rfl rfl (by decide) rfl (.n rfl) rfl rfl rfl (.t rfl) (.c (.i (by decide) (by decide)) (.c (.t rfl) .n)) ?_
            intro g127
            show SOps _ _ _ _ _ _ _ _
            cases ho
            exact s_nil (fun fr h s => And.intro rfl (Exists.intro [(gh g127 0)] (s.pick [2, 0, 1] trivial rfl (by decide))))
        · clear ht129
          have hz := bnd ho
          clear ho
          obtain ⟨b131, h135, ho⟩ := hz
          have h135 := goL_inv h135
          subst h135
          intro g133
          refine st_wk (Γ' := [(7, .val (rPtr rStablePlan) (p_3)), (10, .val (rPtr rdepot_night) (((tracks_0, cars_1, leaves_2, ()) : depot_night))), (11, .raw (.ptr b12 0)), (12, .raw (.ptr b14 0)), (42, .val (rPtr rdepot_night) (((tracks_0, cars_1, leaves_2, ()) : depot_night))), (43, .val rStablePlan (p_3)), (44, .val (rClo 78 [] [.val (rPtr (rPtr rdepot_night)) (y38.1), .val (rPtr rStablePlan) (y38.2)]) ())]) (L' := [(.ptr b14 0, .box [.val (rClo 60 [] [.raw (.ptr b12 0), .val (rPtr rStablePlan) (p_3)]) ()]), (.ptr b12 0, .box [.raw ((gh g133 0))]), ((gh g133 0), .row rStableMove (b131))]) [0, 1, 2] ⟨rfl, rfl, rfl, rfl, rfl, rfl, rfl, trivial⟩ rfl (by decide) ?_
          show ∀ fr h, St _ [(7, .val (rPtr rStablePlan) (p_3)), (10, .val (rPtr rdepot_night) (((tracks_0, cars_1, leaves_2, ()) : depot_night))), (11, .raw (.ptr b12 0)), (12, .raw (.ptr b14 0)), (42, .val (rPtr rdepot_night) (((tracks_0, cars_1, leaves_2, ()) : depot_night))), (43, .val rStablePlan (p_3)), (44, .val (rClo 78 [] [.val (rPtr (rPtr rdepot_night)) (y38.1), .val (rPtr rStablePlan) (y38.2)]) ())] [(.ptr b14 0, .box [.val (rClo 60 [] [.raw (.ptr b12 0), .val (rPtr rStablePlan) (p_3)]) ()]), (.ptr b12 0, .box [.raw ((gh g133 0))]), ((gh g133 0), .row rStableMove (b131))] fr h → _
          show SRun _ _ _ _ _ _
          refine r_seq ?_
          refine r_region ?_
          refine s_loadb 1 (fun _ h => by cases h <;> rfl) (U65).agg rfl (.n rfl) rfl rfl (.t rfl) rfl ?_
          refine s_assign (.n rfl) rfl rfl (.t rfl) ?_
          refine s_assign (.n rfl) rfl rfl (.i (by decide) (by decide)) ?_
          refine s_nilq rfl ?_
          cases ho
          exact r_ret (ret_of (.inr rfl) (.r 2 rfl rfl (.v rfl .n)) (by decide))
theorem g_ref09_in_ok {x_0 : Int} {low_1 : Int} {high_2 : Int} {out : (Bool)} (ho : g_ref09_in x_0 low_1 high_2 = some out) : Fun ktab 40 [.val (rInt .i64) x_0, .val (rInt .i64) low_1, .val (rInt .i64) high_2] [.val rBool (out)] := by
  refine fun_of (F := Try.f40) (by rfl) (by rfl) (by rfl) (fun C hC => ?_)
  delta g_ref09_in at ho
  refine r_seq ?_
  refine r_region ?_
  refine s_assign (.n rfl) rfl rfl .b ?_
  refine s_nilq rfl ?_
  refine r_seq ?_
  obtain ⟨c2, hc2, ho⟩ := bnd ho
  refine r_cut (τ := (Bool)) (G := Unit) (fun t => (.normal, fun _ => ([(6, .val rBool (t))], []))) (t := c2) ?_ ?_
  · have ho := hc2
    clear hc2
    refine r_region ?_
    refine s_move (.n rfl) rfl rfl (.t rfl) ?_
    refine s_move (.n rfl) rfl rfl (.t rfl) ?_
    refine s_cmp (.n rfl) rfl rfl (.t rfl) (.t rfl) .geq ?_
    refine s_move (.n rfl) rfl rfl (.t rfl) ?_
    rcases Bool.eq_false_or_eq_true ((decide (x_0 ≥ low_1))) with hb3 | hb3
    · have ho := cnd1 ho hb3
      refine s_move (.g rfl rfl (gt1 hb3)) rfl rfl (.t rfl) ?_
      refine s_move (.g rfl rfl (gt1 hb3)) rfl rfl (.t rfl) ?_
      refine s_cmp (.g rfl rfl (gt1 hb3)) rfl rfl (.t rfl) (.t rfl) .leq ?_
      refine s_pk1 hb3 (.n rfl) rfl rfl (.t rfl) (.t rfl) ?_
      refine s_assign (.n rfl) rfl rfl (.t rfl) ?_
      cases ho
      exact s_nil (fun fr h s => And.intro rfl (Exists.intro () (s.pick [] ⟨rfl, trivial⟩ rfl (by decide))))
    · have ho := cnd0 ho hb3
      refine s_skip (.g rfl rfl (gt0 hb3)) rfl ?_
      refine s_skip (.g rfl rfl (gt0 hb3)) rfl ?_
      refine s_skip (.g rfl rfl (gt0 hb3)) rfl ?_
      refine s_pk0 hb3 (.n rfl) rfl rfl (.t rfl) .b ?_
      refine s_assign (.n rfl) rfl rfl (.t rfl) ?_
      cases ho
      exact s_nil (fun fr h s => And.intro rfl (Exists.intro () (s.pick [] ⟨rfl, trivial⟩ rfl (by decide))))
  · intro _
    show SRun _ _ _ _ _ _
    cases ho
    exact r_ret (ret_of (.inr rfl) (.v rfl .n) (by decide))
theorem g_ref09_InWay_ok {l_0 : (List Int)} {through_1 : Bool} {i_2 : Int} {j_3 : Int} {out : (Bool)} (ho : g_ref09_InWay l_0 through_1 i_2 j_3 = some out) : Fun ktab 41 [.val (rSlice (rInt .i64)) l_0, .val rBool through_1, .val (rInt .i64) i_2, .val (rInt .i64) j_3] [.val rBool (out)] := by
  refine fun_of (F := Try.f41) (by rfl) (by rfl) (by rfl) (fun C hC => ?_)
  delta g_ref09_InWay at ho
  refine r_seq ?_
  refine r_region ?_
  refine s_assign (.n rfl) rfl rfl .b ?_
  refine s_nilq rfl ?_
  refine r_seq ?_
  refine r_seq ?_
  refine r_region ?_
  refine s_move (.n rfl) rfl rfl (.t rfl) ?_
  refine s_nilq rfl ?_
  refine r_cond (.t rfl) (fun hq1 => ?_) (fun hq1 => ?_)
  · have ho := cnd1 ho hq1
    refine r_seq ?_
    refine r_draw [] (by kernel_rfl) ?_
    refine s_move (.n rfl) rfl rfl (.t rfl) ?_
    refine s_move (.n rfl) rfl rfl (.t rfl) ?_
    obtain ⟨x2, hx2, ho⟩ := bnd ho
    refine s_idx S22 hx2 (.n rfl) rfl rfl (.t rfl) (.t rfl) ?_
    refine s_load U3 (.n rfl) rfl rfl (.t rfl) ?_
    refine s_move (.n rfl) rfl rfl (.t rfl) ?_
    refine s_move (.n rfl) rfl rfl (.t rfl) ?_
    obtain ⟨x3, hx3, ho⟩ := bnd ho
    refine s_idx S22 hx3 (.n rfl) rfl rfl (.t rfl) (.t rfl) ?_
    refine s_load U3 (.n rfl) rfl rfl (.t rfl) ?_
    refine s_cmp (.n rfl) rfl rfl (.t rfl) (.t rfl) .lss ?_
    refine s_assign (.n rfl) rfl rfl (.t rfl) ?_
    refine s_nilq rfl ?_
    cases ho
    exact r_ret (ret_of (.inr rfl) (.v rfl .n) (by decide))
  · have ho := cnd0 ho hq1
    refine r_skipq rfl ?_
    refine r_seq ?_
    refine r_draw [] (by kernel_rfl) ?_
    refine s_move (.n rfl) rfl rfl (.t rfl) ?_
    refine s_move (.n rfl) rfl rfl (.t rfl) ?_
    obtain ⟨x4, hx4, ho⟩ := bnd ho
    refine s_idx S22 hx4 (.n rfl) rfl rfl (.t rfl) (.t rfl) ?_
    refine s_load U3 (.n rfl) rfl rfl (.t rfl) ?_
    refine s_move (.n rfl) rfl rfl (.t rfl) ?_
    refine s_move (.n rfl) rfl rfl (.t rfl) ?_
    obtain ⟨x5, hx5, ho⟩ := bnd ho
    refine s_idx S22 hx5 (.n rfl) rfl rfl (.t rfl) (.t rfl) ?_
    refine s_load U3 (.n rfl) rfl rfl (.t rfl) ?_
    refine s_cmp (.n rfl) rfl rfl (.t rfl) (.t rfl) .lss ?_
    refine s_assign (.n rfl) rfl rfl (.t rfl) ?_
    refine s_nilq rfl ?_
    cases ho
    exact r_ret (ret_of (.inr rfl) (.v rfl .n) (by decide))
theorem g_law09_few_ok {t_0 : (List StableTrack)} {c_1 : (List StableCar)} {l_2 : (List StableLeave)} {most_3 : Int} {out : (Bool)} (ho : g_law09_few t_0 c_1 l_2 most_3 = some out) : Fun ktab 18 [.val (rSlice rStableTrack) t_0, .val (rSlice rStableCar) c_1, .val (rSlice rStableLeave) l_2, .val (rInt .i64) most_3] [.val rBool (out)] := by
  refine fun_of (F := Try.f18) (by rfl) (by rfl) (by rfl) (fun C hC => ?_)
  delta g_law09_few at ho
  refine r_seq ?_
  refine r_region ?_
  refine s_assign (.n rfl) rfl rfl .b ?_
  refine s_nilq rfl ?_
  refine r_seq ?_
  obtain ⟨c5, hc5, ho⟩ := bnd ho
  refine r_cut (τ := (Bool)) (G := Unit) (fun t => (.normal, fun _ => ([(8, .val rBool (t))], []))) (t := c5) ?_ ?_
  · have ho := hc5
    clear hc5
    refine r_region ?_
    refine s_move (.n rfl) rfl rfl (.t rfl) ?_
    refine s_len S31 (.n rfl) rfl rfl rfl rfl rfl (.t rfl) ?_
    refine s_cmp (.n rfl) rfl rfl (.t rfl) (.i (by decide) (by decide)) .leq ?_
    refine s_move (.n rfl) rfl rfl (.t rfl) ?_
    rcases Bool.eq_false_or_eq_true ((decide ((lenI t_0) ≤ 8))) with hb6 | hb6
    · have ho := cnd1 ho hb6
      refine s_move (.g rfl rfl (gt1 hb6)) rfl rfl (.t rfl) ?_
      refine s_len S32 (.g rfl rfl (gt1 hb6)) rfl rfl rfl rfl rfl (.t rfl) ?_
      refine s_cmp (.g rfl rfl (gt1 hb6)) rfl rfl (.t rfl) (.i (by decide) (by decide)) .leq ?_
      refine s_pk1 hb6 (.n rfl) rfl rfl (.t rfl) (.t rfl) ?_
      refine s_move (.n rfl) rfl rfl (.t rfl) ?_
      rcases Bool.eq_false_or_eq_true ((decide ((lenI c_1) ≤ 12))) with hb7 | hb7
      · have ho := cnd1 ho hb7
        refine s_move (.g rfl rfl (gt1 hb7)) rfl rfl (.t rfl) ?_
        refine s_len S33 (.g rfl rfl (gt1 hb7)) rfl rfl rfl rfl rfl (.t rfl) ?_
        refine s_cmp (.g rfl rfl (gt1 hb7)) rfl rfl (.t rfl) (.i (by decide) (by decide)) .leq ?_
        refine s_pk1 hb7 (.n rfl) rfl rfl (.t rfl) (.t rfl) ?_
        refine s_move (.n rfl) rfl rfl (.t rfl) ?_
        rcases Bool.eq_false_or_eq_true ((decide ((lenI l_2) ≤ 12))) with hb8 | hb8
        · have ho := cnd1 ho hb8
          refine s_move (.g rfl rfl (gt1 hb8)) rfl rfl (.t rfl) ?_
          refine s_len S32 (.g rfl rfl (gt1 hb8)) rfl rfl rfl rfl rfl (.t rfl) ?_
          refine s_move (.g rfl rfl (gt1 hb8)) rfl rfl (.t rfl) ?_
          refine s_cmp (.g rfl rfl (gt1 hb8)) rfl rfl (.t rfl) (.t rfl) .leq ?_
          refine s_move (.g rfl rfl (gt1 hb8)) rfl rfl (.t rfl) ?_
          rcases Bool.eq_false_or_eq_true ((decide ((lenI c_1) ≤ most_3))) with hb9 | hb9
          · have ho := cnd1 ho hb9
            refine s_skip (.g rfl rfl (gf1 hb9)) rfl ?_
            refine s_skip (.g rfl rfl (gf1 hb9)) rfl ?_
            refine s_skip (.g rfl rfl (gf1 hb9)) rfl ?_
            refine s_pk1 hb9 (.g rfl rfl (gt1 hb8)) rfl rfl (.t rfl) .b ?_
            refine s_pk1 hb8 (.n rfl) rfl rfl (.t rfl) (.t rfl) ?_
            refine s_assign (.n rfl) rfl rfl (.t rfl) ?_
            cases ho
            exact s_nil (fun fr h s => And.intro rfl (Exists.intro () (s.pick [] ⟨rfl, trivial⟩ rfl (by decide))))
          · have ho := cnd0 ho hb9
            refine s_move (.g rfl rfl (gf0 hb9)) rfl rfl (.t rfl) ?_
            refine s_len S32 (.g rfl rfl (gf0 hb9)) rfl rfl rfl rfl rfl (.t rfl) ?_
            refine s_cmp (.g rfl rfl (gf0 hb9)) rfl rfl (.t rfl) (.i (by decide) (by decide)) .gtr ?_
            refine s_pk0 hb9 (.g rfl rfl (gt1 hb8)) rfl rfl (.t rfl) (.t rfl) ?_
            refine s_pk1 hb8 (.n rfl) rfl rfl (.t rfl) (.t rfl) ?_
            refine s_assign (.n rfl) rfl rfl (.t rfl) ?_
            cases ho
            exact s_nil (fun fr h s => And.intro rfl (Exists.intro () (s.pick [] ⟨rfl, trivial⟩ rfl (by decide))))
        · have ho := cnd0 ho hb8
          refine s_skip (.g rfl rfl (gt0 hb8)) rfl ?_
          refine s_skip (.g rfl rfl (gt0 hb8)) rfl ?_
          refine s_skip (.g rfl rfl (gt0 hb8)) rfl ?_
          refine s_skip (.g rfl rfl (gt0 hb8)) rfl ?_
          refine s_skip (.g rfl rfl (gt0 hb8)) rfl ?_
          refine s_skip (.u rfl rfl rfl) rfl ?_
          refine s_skip (.u rfl rfl rfl) rfl ?_
          refine s_skip (.u rfl rfl rfl) rfl ?_
          refine s_skip (.g rfl rfl (gt0 hb8)) rfl ?_
          refine s_pk0 hb8 (.n rfl) rfl rfl (.t rfl) .b ?_
          refine s_assign (.n rfl) rfl rfl (.t rfl) ?_
          cases ho
          exact s_nil (fun fr h s => And.intro rfl (Exists.intro () (s.pick [] ⟨rfl, trivial⟩ rfl (by decide))))
      · have ho := cnd0 ho hb7
        refine s_skip (.g rfl rfl (gt0 hb7)) rfl ?_
        refine s_skip (.g rfl rfl (gt0 hb7)) rfl ?_
        refine s_skip (.g rfl rfl (gt0 hb7)) rfl ?_
        refine s_pk0 hb7 (.n rfl) rfl rfl (.t rfl) .b ?_
        refine s_move (.n rfl) rfl rfl (.t rfl) ?_
        refine s_skip (.g rfl rfl rfl) rfl ?_
        refine s_skip (.g rfl rfl rfl) rfl ?_
        refine s_skip (.g rfl rfl rfl) rfl ?_
        refine s_skip (.g rfl rfl rfl) rfl ?_
        refine s_skip (.g rfl rfl rfl) rfl ?_
        refine s_skip (.u rfl rfl rfl) rfl ?_
        refine s_skip (.u rfl rfl rfl) rfl ?_
        refine s_skip (.u rfl rfl rfl) rfl ?_
        refine s_skip (.g rfl rfl rfl) rfl ?_
        refine s_pick0 (.n rfl) rfl rfl (.t rfl) .b ?_
        refine s_assign (.n rfl) rfl rfl (.t rfl) ?_
        cases ho
        exact s_nil (fun fr h s => And.intro rfl (Exists.intro () (s.pick [] ⟨rfl, trivial⟩ rfl (by decide))))
    · have ho := cnd0 ho hb6
      refine s_skip (.g rfl rfl (gt0 hb6)) rfl ?_
      refine s_skip (.g rfl rfl (gt0 hb6)) rfl ?_
      refine s_skip (.g rfl rfl (gt0 hb6)) rfl ?_
      refine s_pk0 hb6 (.n rfl) rfl rfl (.t rfl) .b ?_
      refine s_move (.n rfl) rfl rfl (.t rfl) ?_
      refine s_skip (.g rfl rfl rfl) rfl ?_
      refine s_skip (.g rfl rfl rfl) rfl ?_
      refine s_skip (.g rfl rfl rfl) rfl ?_
      refine s_pick0 (.n rfl) rfl rfl (.t rfl) .b ?_
      refine s_move (.n rfl) rfl rfl (.t rfl) ?_
      refine s_skip (.g rfl rfl rfl) rfl ?_
      refine s_skip (.g rfl rfl rfl) rfl ?_
      refine s_skip (.g rfl rfl rfl) rfl ?_
      refine s_skip (.g rfl rfl rfl) rfl ?_
      refine s_skip (.g rfl rfl rfl) rfl ?_
      refine s_skip (.u rfl rfl rfl) rfl ?_
      refine s_skip (.u rfl rfl rfl) rfl ?_
      refine s_skip (.u rfl rfl rfl) rfl ?_
      refine s_skip (.g rfl rfl rfl) rfl ?_
      refine s_pick0 (.n rfl) rfl rfl (.t rfl) .b ?_
      refine s_assign (.n rfl) rfl rfl (.t rfl) ?_
      cases ho
      exact s_nil (fun fr h s => And.intro rfl (Exists.intro () (s.pick [] ⟨rfl, trivial⟩ rfl (by decide))))
  · intro _
    show SRun _ _ _ _ _ _
    cases ho
    exact r_ret (ret_of (.inr rfl) (.v rfl .n) (by decide))
theorem g_ref09_Night_ok {p_0 : (List StableTrack)} {p_1 : (List StableCar)} {p_2 : (List StableLeave)} {out : (Bool)} (ho : g_ref09_Night p_0 p_1 p_2 = some out) : Fun ktab 20 [.val (rSlice rStableTrack) p_0, .val (rSlice rStableCar) p_1, .val (rSlice rStableLeave) p_2] [.val rBool (out)] := by
  refine fun_of (F := Try.f20) (by rfl) (by rfl) (by rfl) (fun C hC => ?_)
  delta g_ref09_Night at ho
  refine r_seq ?_
  refine r_region ?_
  refine s_assign (.n rfl) rfl rfl .b ?_
  refine s_nilq rfl ?_
  refine r_seq ?_
  refine r_seq ?_
  obtain ⟨c4, hc4, ho⟩ := bnd ho
  refine r_cut (τ := (Bool)) (G := Unit) (fun t => (.normal, fun _ => ([(0, .val (rSlice rStableTrack) (p_0)), (1, .val (rSlice rStableCar) (p_1)), (2, .val (rSlice rStableLeave) (p_2)), (26, .val rBool (t))], []))) (t := c4) ?_ ?_
  · have ho := hc4
    clear hc4
    refine r_region ?_
    refine s_move (.n rfl) rfl rfl (.t rfl) ?_
    refine s_len S31 (.n rfl) rfl rfl rfl rfl rfl (.t rfl) ?_
    obtain ⟨y5, hy5, ho⟩ := bnd ho
    refine s_calll (g_ref09_in_ok hy5) (.v flat_bool .n) rfl (.n rfl) rfl rfl rfl .f (.c (.o (.t rfl)) (.c (.o (.i (by decide) (by decide))) (.c (.o (.i (by decide) (by decide))) .n))) ?_
    show SOps _ _ _ _ _ _ _ _
    refine s_not (.n rfl) rfl rfl (.t rfl) ?_
    refine s_move (.n rfl) rfl rfl (.t rfl) ?_
    rcases Bool.eq_false_or_eq_true ((!y5)) with hb6 | hb6
    · have ho := cnd1 ho hb6
      refine s_skip (.g rfl rfl (gf1 hb6)) rfl ?_
      refine s_skip (.g rfl rfl (gf1 hb6)) rfl ?_
      refine s_skip (.g rfl rfl (gf1 hb6)) rfl ?_
      refine s_skip (.g rfl rfl (gf1 hb6)) rfl ?_
      refine s_skip (.g rfl rfl (gf1 hb6)) rfl ?_
      refine s_pk1 hb6 (.n rfl) rfl rfl (.t rfl) .b ?_
      refine s_move (.n rfl) rfl rfl (.t rfl) ?_
      refine s_skip (.g rfl rfl rfl) rfl ?_
      refine s_skip (.g rfl rfl rfl) rfl ?_
      refine s_skip (.g rfl rfl rfl) rfl ?_
      refine s_pick1 (.n rfl) rfl rfl (.t rfl) .b ?_
      cases ho
      exact s_nil (fun fr h s => And.intro rfl (Exists.intro () (s.pick [] ⟨rfl, rfl, rfl, rfl, trivial⟩ rfl (by decide))))
    · have ho := cnd0 ho hb6
      refine s_move (.g rfl rfl (gf0 hb6)) rfl rfl (.t rfl) ?_
      refine s_len S32 (.g rfl rfl (gf0 hb6)) rfl rfl rfl rfl rfl (.t rfl) ?_
      refine s_move (.g rfl rfl (gf0 hb6)) rfl rfl (.t rfl) ?_
      refine s_len S33 (.g rfl rfl (gf0 hb6)) rfl rfl rfl rfl rfl (.t rfl) ?_
      refine s_cmp (.g rfl rfl (gf0 hb6)) rfl rfl (.t rfl) (.t rfl) .neq ?_
      refine s_pk0 hb6 (.n rfl) rfl rfl (.t rfl) (.t rfl) ?_
      refine s_move (.n rfl) rfl rfl (.t rfl) ?_
      rcases Bool.eq_false_or_eq_true (((lenI p_1) != (lenI p_2))) with hb7 | hb7
      · have ho := cnd1 ho hb7
        refine s_skip (.g rfl rfl (gf1 hb7)) rfl ?_
        refine s_skip (.g rfl rfl (gf1 hb7)) rfl ?_
        refine s_skip (.g rfl rfl (gf1 hb7)) rfl ?_
        refine s_pk1 hb7 (.n rfl) rfl rfl (.t rfl) .b ?_
        cases ho
        exact s_nil (fun fr h s => And.intro rfl (Exists.intro () (s.pick [] ⟨rfl, rfl, rfl, rfl, trivial⟩ rfl (by decide))))
      · have ho := cnd0 ho hb7
        refine s_move (.g rfl rfl (gf0 hb7)) rfl rfl (.t rfl) ?_
        refine s_len S32 (.g rfl rfl (gf0 hb7)) rfl rfl rfl rfl rfl (.t rfl) ?_
        refine s_cmp (.g rfl rfl (gf0 hb7)) rfl rfl (.t rfl) (.i (by decide) (by decide)) .gtr ?_
        refine s_pk0 hb7 (.n rfl) rfl rfl (.t rfl) (.t rfl) ?_
        cases ho
        exact s_nil (fun fr h s => And.intro rfl (Exists.intro () (s.pick [] ⟨rfl, rfl, rfl, rfl, trivial⟩ rfl (by decide))))
  · intro _
    show SRun _ _ _ _ _ _
    refine r_cond (.t rfl) (fun hq8 => ?_) (fun hq8 => ?_)
    · have ho := cnd1 ho hq8
      refine r_seq ?_
      refine r_region ?_
      refine s_assign (.n rfl) rfl rfl .b ?_
      refine s_nilq rfl ?_
      cases ho
      exact r_ret (ret_of (.inr rfl) (.v rfl .n) (by decide))
    · have ho := cnd0 ho hq8
      refine r_skipq rfl ?_
      refine r_seq ?_
      refine r_seq ?_
      refine r_region ?_
      refine s_assign (.n rfl) rfl rfl (.i (by decide) (by decide)) ?_
      refine s_nilq rfl ?_
      refine r_block ?_
      obtain ⟨t19, ht19, ho⟩ := bnd ho
      refine r_loop (σ := (Int)) (τ := Unit ⊕ (Bool)) (G := List AVal) (fun s g => ([(0, .val (rSlice rStableTrack) (p_0)), (1, .val (rSlice rStableCar) (p_1)), (2, .val (rSlice rStableLeave) (p_2)), (7, .val (rInt .i64) (s))], [])) (altX (fun b => (.exit 0, fun g => ([(1, .val (rSlice rStableCar) (p_1)), (2, .val (rSlice rStableLeave) (p_2))], []))) (fun b => (.ret, fun g => ([(6, .val rBool (b))], [])))) _ [] ht19 (fun fr h s => s.pick [] ⟨rfl, rfl, rfl, rfl, trivial⟩ rfl (by decide)) ?_ ?_ ?_
      · intro t
        rcases t with t | t
        · exact (show (.exit 0 : AExit) ≠ .normal from fun e => by cases e)
        · exact (show (.ret : AExit) ≠ .normal from fun e => by cases e)
      · clear ho
        intro s13 g14 r20 ho
        refine r_seq ?_
        refine r_seq ?_
        refine r_region ?_
        refine s_move (.n rfl) rfl rfl (.t rfl) ?_
        refine s_move (.n rfl) rfl rfl (.t rfl) ?_
        refine s_len S31 (.n rfl) rfl rfl rfl rfl rfl (.t rfl) ?_
        refine s_cmp (.n rfl) rfl rfl (.t rfl) (.t rfl) .lss ?_
        refine s_nilq rfl ?_
        refine r_cond (.t rfl) (fun hq15 => ?_) (fun hq15 => ?_)
        · have ho := cnd1 ho hq15
          refine r_skipq rfl ?_
          refine r_seq ?_
          refine r_block ?_
          refine r_seq ?_
          refine r_region ?_
          refine s_move (.n rfl) rfl rfl (.t rfl) ?_
          refine s_move (.n rfl) rfl rfl (.t rfl) ?_
          obtain ⟨x16, hx16, ho⟩ := bnd ho
          refine s_idx S31 hx16 (.n rfl) rfl rfl (.t rfl) (.t rfl) ?_
          refine s_fa F48_0 fk_StableTrack_0 (by decide) (.n rfl) rfl rfl (.t rfl) ?_
          refine s_load U3 (.n rfl) rfl rfl (.t rfl) ?_
          obtain ⟨y17, hy17, ho⟩ := bnd ho
          refine s_calll (g_ref09_in_ok hy17) (.v flat_bool .n) rfl (.n rfl) rfl rfl rfl .f (.c (.o (.t rfl)) (.c (.o (.i (by decide) (by decide))) (.c (.o (.i (by decide) (by decide))) .n))) ?_
          show SOps _ _ _ _ _ _ _ _
          refine s_not (.n rfl) rfl rfl (.t rfl) ?_
          refine s_nilq rfl ?_
          refine r_cond (.t rfl) (fun hq18 => ?_) (fun hq18 => ?_)
          · have ho := cnd1 ho hq18
            refine r_seq ?_
            refine r_region ?_
            refine s_assign (.n rfl) rfl rfl .b ?_
            refine s_nilq rfl ?_
            cases ho
            exact r_ret (fun fr h s => And.intro rfl (Exists.intro [] (s.pick [] ⟨rfl, trivial⟩ rfl (by decide))))
          · have ho := cnd0 ho hq18
            refine r_skipq rfl ?_
            refine r_region ?_
            refine s_move (.n rfl) rfl rfl (.t rfl) ?_
            refine s_ar (.n rfl) rfl rfl (.t rfl) (.i (by decide) (by decide)) .add ?_
            refine s_assign (.n rfl) rfl rfl (.t rfl) ?_
            cases ho
            exact s_nil (fun fr h s => And.intro rfl (Exists.intro [] (s.pick [] ⟨rfl, rfl, rfl, rfl, trivial⟩ rfl (by decide))))
        · have ho := cnd0 ho hq15
          cases ho
          exact r_exit (fun fr h s => And.intro rfl (Exists.intro [] (s.pick [] ⟨rfl, rfl, trivial⟩ rfl (by decide))))
      · clear ht19
        rcases t19 with b21 | b22
        · have ho := alt_l ho
          intro g23
          show ∀ fr h, St _ [(1, .val (rSlice rStableCar) (p_1)), (2, .val (rSlice rStableLeave) (p_2))] [] fr h → _
          show SRun _ _ _ _ _ _
          refine r_seq ?_
          refine r_seq ?_
          refine r_region ?_
          refine s_assign (.n rfl) rfl rfl (.i (by decide) (by decide)) ?_
          refine s_nilq rfl ?_
          refine r_block ?_
          obtain ⟨t140, ht140, ho⟩ := bnd ho
          refine r_loop (σ := (Int)) (τ := Unit ⊕ (Bool)) (G := List AVal) (fun s g => ([(1, .val (rSlice rStableCar) (p_1)), (2, .val (rSlice rStableLeave) (p_2)), (8, .val (rInt .i64) (s))], [])) (altX (fun b => (.exit 2, fun g => ([], []))) (fun b => (.ret, fun g => ([(6, .val rBool (b))], [])))) _ [] ht140 (fun fr h s => s.pick [] ⟨rfl, rfl, rfl, trivial⟩ rfl (by decide)) ?_ ?_ ?_
          · intro t
            rcases t with t | t
            · exact (show (.exit 2 : AExit) ≠ .normal from fun e => by cases e)
            · exact (show (.ret : AExit) ≠ .normal from fun e => by cases e)
          · clear ho
            intro s81 g82 r141 ho
            refine r_seq ?_
            refine r_seq ?_
            refine r_region ?_
            refine s_move (.n rfl) rfl rfl (.t rfl) ?_
            refine s_move (.n rfl) rfl rfl (.t rfl) ?_
            refine s_len S32 (.n rfl) rfl rfl rfl rfl rfl (.t rfl) ?_
            refine s_cmp (.n rfl) rfl rfl (.t rfl) (.t rfl) .lss ?_
            refine s_nilq rfl ?_
            refine r_cond (.t rfl) (fun hq83 => ?_) (fun hq83 => ?_)
            · have ho := cnd1 ho hq83
              refine r_skipq rfl ?_
              refine r_seq ?_
              refine r_block ?_
              refine r_seq ?_
              refine r_draw [] (by kernel_rfl) ?_
              refine s_move (.n rfl) rfl rfl (.t rfl) ?_
              refine s_move (.n rfl) rfl rfl (.t rfl) ?_
              obtain ⟨x84, hx84, ho⟩ := bnd ho
              refine s_idx S32 hx84 (.n rfl) rfl rfl (.t rfl) (.t rfl) ?_
              refine s_load U44 (.n rfl) rfl rfl (.t rfl) ?_
              refine s_move (.n rfl) rfl rfl (.t rfl) ?_
              refine s_move (.n rfl) rfl rfl (.t rfl) ?_
              obtain ⟨x85, hx85, ho⟩ := bnd ho
              refine s_idx S33 hx85 (.n rfl) rfl rfl (.t rfl) (.t rfl) ?_
              refine s_load U46 (.n rfl) rfl rfl (.t rfl) ?_
              refine s_alloc (zv := .agg [.int .i64 0, .int .i64 0, .int .i64 0, .int .i64 0]) (es := [.val (rInt .i64) (0), .val (rInt .i64) (0), .val (rInt .i64) (0), .val (rInt .i64) (0)]) (by kernel_rfl) (fun _ => (okint (okint (okint (okint okn))))) rfl (.n rfl) rfl rfl ?_
              intro b86
              refine s_alloc (zv := .agg [.int .i64 0, .int .i64 0]) (es := [.val (rInt .i64) (0), .val (rInt .i64) (0)]) (by kernel_rfl) (fun _ => (okint (okint okn))) rfl (.n rfl) rfl rfl ?_
              intro b88
              refine s_storebs 1 U44 rfl (cells_pair (cells_one rfl) (cells_pair (cells_one rfl) (cells_pair (cells_one rfl) (cells_pair (cells_one rfl) cells_unit rfl) rfl) rfl) rfl) (by rfl) (.n rfl) rfl rfl (.t rfl) (.t rfl) (by rfl) ?_
              refine s_st (st_freezeb (R := rStableCar) (a := x84) 1 [9] (cells_pair (cells_one rfl) (cells_pair (cells_one rfl) (cells_pair (cells_one rfl) (cells_pair (cells_one rfl) cells_unit rfl) rfl) rfl) rfl) rfl rfl ⟨rfl, trivial⟩) ?_
              refine s_storebs 0 U46 rfl (cells_pair (cells_one rfl) (cells_pair (cells_one rfl) cells_unit rfl) rfl) (by rfl) (.n rfl) rfl rfl (.t rfl) (.t rfl) (by rfl) ?_
              refine s_st (st_freezeb (R := rStableLeave) (a := x85) 0 [10] (cells_pair (cells_one rfl) (cells_pair (cells_one rfl) cells_unit rfl) rfl) rfl rfl ⟨rfl, trivial⟩) ?_
              refine s_nilq rfl ?_
              refine r_seq ?_
              refine r_seq ?_
              refine r_draw [] (by kernel_rfl) ?_
              refine s_fa F44_0 fk_StableCar_0 (by decide) (.n rfl) rfl rfl (.t rfl) ?_
              refine s_load U3 (.n rfl) rfl rfl (.t rfl) ?_
              obtain ⟨y100, hy100, ho⟩ := bnd ho
              refine s_calll (g_ref09_in_ok hy100) (.v flat_bool .n) rfl (.n rfl) rfl rfl rfl .f (.c (.o (.t rfl)) (.c (.o (.i (by decide) (by decide))) (.c (.o (.i (by decide) (by decide))) .n))) ?_
              show SOps _ _ _ _ _ _ _ _
              refine s_not (.n rfl) rfl rfl (.t rfl) ?_
              refine s_move (.n rfl) rfl rfl (.t rfl) ?_
              rcases Bool.eq_false_or_eq_true ((!y100)) with hb101 | hb101
              · have ho := cnd1 ho hb101
                refine s_skip (.g rfl rfl (gf1 hb101)) rfl ?_
                refine s_skip (.g rfl rfl (gf1 hb101)) rfl ?_
                refine s_skip (.g rfl rfl (gf1 hb101)) rfl ?_
                refine s_skip (.g rfl rfl (gf1 hb101)) rfl ?_
                refine s_pk1 hb101 (.n rfl) rfl rfl (.t rfl) .b ?_
                refine s_move (.n rfl) rfl rfl (.t rfl) ?_
                refine s_skip (.g rfl rfl rfl) rfl ?_
                refine s_skip (.g rfl rfl rfl) rfl ?_
                refine s_skip (.g rfl rfl rfl) rfl ?_
                refine s_skip (.g rfl rfl rfl) rfl ?_
                refine s_pick1 (.n rfl) rfl rfl (.t rfl) .b ?_
                refine s_move (.n rfl) rfl rfl (.t rfl) ?_
                refine s_skip (.g rfl rfl rfl) rfl ?_
                refine s_skip (.g rfl rfl rfl) rfl ?_
                refine s_skip (.g rfl rfl rfl) rfl ?_
                refine s_skip (.g rfl rfl rfl) rfl ?_
                refine s_pick1 (.n rfl) rfl rfl (.t rfl) .b ?_
                refine s_move (.n rfl) rfl rfl (.t rfl) ?_
                refine s_skip (.g rfl rfl rfl) rfl ?_
                refine s_skip (.g rfl rfl rfl) rfl ?_
                refine s_skip (.g rfl rfl rfl) rfl ?_
                refine s_skip (.u rfl rfl rfl) rfl ?_
                refine s_skip (.u rfl rfl rfl) rfl ?_
                refine s_skip (.u rfl rfl rfl) rfl ?_
                refine s_skip (.u rfl rfl rfl) rfl ?_
                refine s_skip (.u rfl rfl rfl) rfl ?_
                refine s_skip (.u rfl rfl rfl) rfl ?_
                refine s_skip (.u rfl rfl rfl) rfl ?_
                refine s_skip (.u rfl rfl rfl) rfl ?_
                refine s_skip (.u rfl rfl rfl) rfl ?_
                refine s_skip (.g rfl rfl rfl) rfl ?_
                refine s_pick1 (.n rfl) rfl rfl (.t rfl) .b ?_
                refine s_nilq rfl ?_
                refine r_cond (.t rfl) (fun _ => ?_) (fun hq => by cases hq)
                refine r_seq ?_
                refine r_region ?_
                refine s_assign (.n rfl) rfl rfl .b ?_
                refine s_nilq rfl ?_
                cases ho
                exact r_ret (fun fr h s => And.intro rfl (Exists.intro [] (s.pick [] ⟨rfl, trivial⟩ rfl (by decide))))
              · have ho := cnd0 ho hb101
                refine s_fa F44_1 fk_StableCar_1 (by decide) (.g rfl rfl (gf0 hb101)) rfl rfl (.t rfl) ?_
                refine s_load U3 (.g rfl rfl (gf0 hb101)) rfl rfl (.t rfl) ?_
                obtain ⟨y103, hy103, ho⟩ := bnd ho
                refine s_calll (g_ref09_in_ok hy103) (.v flat_bool .n) rfl (.g rfl rfl (gf0 hb101)) rfl rfl rfl .f (.c (.o (.t rfl)) (.c (.o (.i (by decide) (by decide))) (.c (.o (.i (by decide) (by decide))) .n))) ?_
                show SOps _ _ _ _ _ _ _ _
                refine s_not (.g rfl rfl (gf0 hb101)) rfl rfl (.t rfl) ?_
                refine s_pk0 hb101 (.n rfl) rfl rfl (.t rfl) (.t rfl) ?_
                refine s_move (.n rfl) rfl rfl (.t rfl) ?_
                rcases Bool.eq_false_or_eq_true ((!y103)) with hb104 | hb104
                · have ho := cnd1 ho hb104
                  refine s_skip (.g rfl rfl (gf1 hb104)) rfl ?_
                  refine s_skip (.g rfl rfl (gf1 hb104)) rfl ?_
                  refine s_skip (.g rfl rfl (gf1 hb104)) rfl ?_
                  refine s_skip (.g rfl rfl (gf1 hb104)) rfl ?_
                  refine s_pk1 hb104 (.n rfl) rfl rfl (.t rfl) .b ?_
                  refine s_move (.n rfl) rfl rfl (.t rfl) ?_
                  refine s_skip (.g rfl rfl rfl) rfl ?_
                  refine s_skip (.g rfl rfl rfl) rfl ?_
                  refine s_skip (.g rfl rfl rfl) rfl ?_
                  refine s_skip (.g rfl rfl rfl) rfl ?_
                  refine s_pick1 (.n rfl) rfl rfl (.t rfl) .b ?_
                  refine s_move (.n rfl) rfl rfl (.t rfl) ?_
                  refine s_skip (.g rfl rfl rfl) rfl ?_
                  refine s_skip (.g rfl rfl rfl) rfl ?_
                  refine s_skip (.g rfl rfl rfl) rfl ?_
                  refine s_skip (.u rfl rfl rfl) rfl ?_
                  refine s_skip (.u rfl rfl rfl) rfl ?_
                  refine s_skip (.u rfl rfl rfl) rfl ?_
                  refine s_skip (.u rfl rfl rfl) rfl ?_
                  refine s_skip (.u rfl rfl rfl) rfl ?_
                  refine s_skip (.u rfl rfl rfl) rfl ?_
                  refine s_skip (.u rfl rfl rfl) rfl ?_
                  refine s_skip (.u rfl rfl rfl) rfl ?_
                  refine s_skip (.u rfl rfl rfl) rfl ?_
                  refine s_skip (.g rfl rfl rfl) rfl ?_
                  refine s_pick1 (.n rfl) rfl rfl (.t rfl) .b ?_
                  refine s_nilq rfl ?_
                  refine r_cond (.t rfl) (fun _ => ?_) (fun hq => by cases hq)
                  refine r_seq ?_
                  refine r_region ?_
                  refine s_assign (.n rfl) rfl rfl .b ?_
                  refine s_nilq rfl ?_
                  cases ho
                  exact r_ret (fun fr h s => And.intro rfl (Exists.intro [] (s.pick [] ⟨rfl, trivial⟩ rfl (by decide))))
                · have ho := cnd0 ho hb104
                  refine s_fa F44_2 fk_StableCar_2 (by decide) (.g rfl rfl (gf0 hb104)) rfl rfl (.t rfl) ?_
                  refine s_load U3 (.g rfl rfl (gf0 hb104)) rfl rfl (.t rfl) ?_
                  obtain ⟨y106, hy106, ho⟩ := bnd ho
                  refine s_calll (g_ref09_in_ok hy106) (.v flat_bool .n) rfl (.g rfl rfl (gf0 hb104)) rfl rfl rfl .f (.c (.o (.t rfl)) (.c (.o (.i (by decide) (by decide))) (.c (.o (.i (by decide) (by decide))) .n))) ?_
                  show SOps _ _ _ _ _ _ _ _
                  refine s_not (.g rfl rfl (gf0 hb104)) rfl rfl (.t rfl) ?_
                  refine s_pk0 hb104 (.n rfl) rfl rfl (.t rfl) (.t rfl) ?_
                  refine s_move (.n rfl) rfl rfl (.t rfl) ?_
                  rcases Bool.eq_false_or_eq_true ((!y106)) with hb107 | hb107
                  · have ho := cnd1 ho hb107
                    refine s_skip (.g rfl rfl (gf1 hb107)) rfl ?_
                    refine s_skip (.g rfl rfl (gf1 hb107)) rfl ?_
                    refine s_skip (.g rfl rfl (gf1 hb107)) rfl ?_
                    refine s_skip (.g rfl rfl (gf1 hb107)) rfl ?_
                    refine s_pk1 hb107 (.n rfl) rfl rfl (.t rfl) .b ?_
                    refine s_move (.n rfl) rfl rfl (.t rfl) ?_
                    refine s_skip (.g rfl rfl rfl) rfl ?_
                    refine s_skip (.g rfl rfl rfl) rfl ?_
                    refine s_skip (.g rfl rfl rfl) rfl ?_
                    refine s_skip (.u rfl rfl rfl) rfl ?_
                    refine s_skip (.u rfl rfl rfl) rfl ?_
                    refine s_skip (.u rfl rfl rfl) rfl ?_
                    refine s_skip (.u rfl rfl rfl) rfl ?_
                    refine s_skip (.u rfl rfl rfl) rfl ?_
                    refine s_skip (.u rfl rfl rfl) rfl ?_
                    refine s_skip (.u rfl rfl rfl) rfl ?_
                    refine s_skip (.u rfl rfl rfl) rfl ?_
                    refine s_skip (.u rfl rfl rfl) rfl ?_
                    refine s_skip (.g rfl rfl rfl) rfl ?_
                    refine s_pick1 (.n rfl) rfl rfl (.t rfl) .b ?_
                    refine s_nilq rfl ?_
                    refine r_cond (.t rfl) (fun _ => ?_) (fun hq => by cases hq)
                    refine r_seq ?_
                    refine r_region ?_
                    refine s_assign (.n rfl) rfl rfl .b ?_
                    refine s_nilq rfl ?_
                    cases ho
                    exact r_ret (fun fr h s => And.intro rfl (Exists.intro [] (s.pick [] ⟨rfl, trivial⟩ rfl (by decide))))
                  · have ho := cnd0 ho hb107
                    refine s_fa F44_3 fk_StableCar_3 (by decide) (.g rfl rfl (gf0 hb107)) rfl rfl (.t rfl) ?_
                    refine s_load U3 (.g rfl rfl (gf0 hb107)) rfl rfl (.t rfl) ?_
                    obtain ⟨y109, hy109, ho⟩ := bnd ho
                    refine s_calll (g_ref09_in_ok hy109) (.v flat_bool .n) rfl (.g rfl rfl (gf0 hb107)) rfl rfl rfl .f (.c (.o (.t rfl)) (.c (.o (.i (by decide) (by decide))) (.c (.o (.i (by decide) (by decide))) .n))) ?_
                    show SOps _ _ _ _ _ _ _ _
                    refine s_not (.g rfl rfl (gf0 hb107)) rfl rfl (.t rfl) ?_
                    refine s_pk0 hb107 (.n rfl) rfl rfl (.t rfl) (.t rfl) ?_
                    refine s_move (.n rfl) rfl rfl (.t rfl) ?_
                    rcases Bool.eq_false_or_eq_true ((!y109)) with hb110 | hb110
                    · have ho := cnd1 ho hb110
                      refine s_skip (.g rfl rfl (gf1 hb110)) rfl ?_
                      refine s_skip (.g rfl rfl (gf1 hb110)) rfl ?_
                      refine s_skip (.g rfl rfl (gf1 hb110)) rfl ?_
                      refine s_skip (.u rfl rfl rfl) rfl ?_
                      refine s_skip (.u rfl rfl rfl) rfl ?_
                      refine s_skip (.u rfl rfl rfl) rfl ?_
                      refine s_skip (.u rfl rfl rfl) rfl ?_
                      refine s_skip (.u rfl rfl rfl) rfl ?_
                      refine s_skip (.u rfl rfl rfl) rfl ?_
                      refine s_skip (.u rfl rfl rfl) rfl ?_
                      refine s_skip (.u rfl rfl rfl) rfl ?_
                      refine s_skip (.u rfl rfl rfl) rfl ?_
                      refine s_skip (.g rfl rfl (gf1 hb110)) rfl ?_
                      refine s_pk1 hb110 (.n rfl) rfl rfl (.t rfl) .b ?_
                      refine s_nilq rfl ?_
                      refine r_cond (.t rfl) (fun _ => ?_) (fun hq => by cases hq)
                      refine r_seq ?_
                      refine r_region ?_
                      refine s_assign (.n rfl) rfl rfl .b ?_
                      refine s_nilq rfl ?_
                      cases ho
                      exact r_ret (fun fr h s => And.intro rfl (Exists.intro [] (s.pick [] ⟨rfl, trivial⟩ rfl (by decide))))
                    · have ho := cnd0 ho hb110
                      refine s_move (.g rfl rfl (gf0 hb110)) rfl rfl (.t rfl) ?_
                      refine s_cmp (.g rfl rfl (gf0 hb110)) rfl rfl (.t rfl) (.i (by decide) (by decide)) .gtr ?_
                      refine s_move (.g rfl rfl (gf0 hb110)) rfl rfl (.t rfl) ?_
                      rcases Bool.eq_false_or_eq_true ((decide (s81 > 0))) with hb112 | hb112
                      · have ho := cnd1 ho hb112
                        refine s_fa F44_2 fk_StableCar_2 (by decide) (.g rfl rfl (gt1 hb112)) rfl rfl (.t rfl) ?_
                        refine s_load U3 (.g rfl rfl (gt1 hb112)) rfl rfl (.t rfl) ?_
                        refine s_move (.g rfl rfl (gt1 hb112)) rfl rfl (.t rfl) ?_
                        refine s_move (.g rfl rfl (gt1 hb112)) rfl rfl (.t rfl) ?_
                        refine s_ar (.g rfl rfl (gt1 hb112)) rfl rfl (.t rfl) (.i (by decide) (by decide)) .sub ?_
                        obtain ⟨x113, hx113, ho⟩ := bnd ho
                        refine s_idx S32 hx113 (.g rfl rfl (gt1 hb112)) rfl rfl (.t rfl) (.t rfl) ?_
                        refine s_fa F44_2 fk_StableCar_2 (by decide) (.g rfl rfl (gt1 hb112)) rfl rfl (.t rfl) ?_
                        refine s_load U3 (.g rfl rfl (gt1 hb112)) rfl rfl (.t rfl) ?_
                        refine s_cmp (.g rfl rfl (gt1 hb112)) rfl rfl (.t rfl) (.t rfl) .lss ?_
                        refine s_pk1 hb112 (.g rfl rfl (gf0 hb110)) rfl rfl (.t rfl) (.t rfl) ?_
                        refine s_pk0 hb110 (.n rfl) rfl rfl (.t rfl) (.t rfl) ?_
                        refine s_nilq rfl ?_
                        refine r_cond (.t rfl) (fun hq114 => ?_) (fun hq114 => ?_)
                        · have ho := cnd1 ho hq114
                          refine r_seq ?_
                          refine r_region ?_
                          refine s_assign (.n rfl) rfl rfl .b ?_
                          refine s_nilq rfl ?_
                          cases ho
                          exact r_ret (fun fr h s => And.intro rfl (Exists.intro [] (s.pick [] ⟨rfl, trivial⟩ rfl (by decide))))
                        · have ho := cnd0 ho hq114
                          refine r_skipq rfl ?_
                          refine r_seq ?_
                          refine r_draw [] (by kernel_rfl) ?_
                          refine s_fa F46_0 fk_StableLeave_0 (by decide) (.n rfl) rfl rfl (.t rfl) ?_
                          refine s_load U3 (.n rfl) rfl rfl (.t rfl) ?_
                          obtain ⟨y120, hy120, ho⟩ := bnd ho
                          refine s_calll (g_ref09_in_ok hy120) (.v flat_bool .n) rfl (.n rfl) rfl rfl rfl .f (.c (.o (.t rfl)) (.c (.o (.i (by decide) (by decide))) (.c (.o (.i (by decide) (by decide))) .n))) ?_
                          show SOps _ _ _ _ _ _ _ _
                          refine s_not (.n rfl) rfl rfl (.t rfl) ?_
                          refine s_move (.n rfl) rfl rfl (.t rfl) ?_
                          rcases Bool.eq_false_or_eq_true ((!y120)) with hb121 | hb121
                          · have ho := cnd1 ho hb121
                            refine s_skip (.g rfl rfl (gf1 hb121)) rfl ?_
                            refine s_skip (.g rfl rfl (gf1 hb121)) rfl ?_
                            refine s_skip (.g rfl rfl (gf1 hb121)) rfl ?_
                            refine s_skip (.g rfl rfl (gf1 hb121)) rfl ?_
                            refine s_pk1 hb121 (.n rfl) rfl rfl (.t rfl) .b ?_
                            refine s_move (.n rfl) rfl rfl (.t rfl) ?_
                            refine s_skip (.g rfl rfl rfl) rfl ?_
                            refine s_skip (.g rfl rfl rfl) rfl ?_
                            refine s_skip (.g rfl rfl rfl) rfl ?_
                            refine s_skip (.u rfl rfl rfl) rfl ?_
                            refine s_skip (.u rfl rfl rfl) rfl ?_
                            refine s_skip (.u rfl rfl rfl) rfl ?_
                            refine s_skip (.u rfl rfl rfl) rfl ?_
                            refine s_skip (.u rfl rfl rfl) rfl ?_
                            refine s_skip (.u rfl rfl rfl) rfl ?_
                            refine s_skip (.u rfl rfl rfl) rfl ?_
                            refine s_skip (.u rfl rfl rfl) rfl ?_
                            refine s_skip (.u rfl rfl rfl) rfl ?_
                            refine s_skip (.g rfl rfl rfl) rfl ?_
                            refine s_pick1 (.n rfl) rfl rfl (.t rfl) .b ?_
                            refine s_nilq rfl ?_
                            refine r_cond (.t rfl) (fun _ => ?_) (fun hq => by cases hq)
                            refine r_seq ?_
                            refine r_region ?_
                            refine s_assign (.n rfl) rfl rfl .b ?_
                            refine s_nilq rfl ?_
                            cases ho
                            exact r_ret (fun fr h s => And.intro rfl (Exists.intro [] (s.pick [] ⟨rfl, trivial⟩ rfl (by decide))))
                          · have ho := cnd0 ho hb121
                            refine s_fa F46_1 fk_StableLeave_1 (by decide) (.g rfl rfl (gf0 hb121)) rfl rfl (.t rfl) ?_
                            refine s_load U3 (.g rfl rfl (gf0 hb121)) rfl rfl (.t rfl) ?_
                            obtain ⟨y123, hy123, ho⟩ := bnd ho
                            refine s_calll (g_ref09_in_ok hy123) (.v flat_bool .n) rfl (.g rfl rfl (gf0 hb121)) rfl rfl rfl .f (.c (.o (.t rfl)) (.c (.o (.i (by decide) (by decide))) (.c (.o (.i (by decide) (by decide))) .n))) ?_
                            show SOps _ _ _ _ _ _ _ _
                            refine s_not (.g rfl rfl (gf0 hb121)) rfl rfl (.t rfl) ?_
                            refine s_pk0 hb121 (.n rfl) rfl rfl (.t rfl) (.t rfl) ?_
                            refine s_move (.n rfl) rfl rfl (.t rfl) ?_
                            rcases Bool.eq_false_or_eq_true ((!y123)) with hb124 | hb124
                            · have ho := cnd1 ho hb124
                              refine s_skip (.g rfl rfl (gf1 hb124)) rfl ?_
                              refine s_skip (.g rfl rfl (gf1 hb124)) rfl ?_
                              refine s_skip (.g rfl rfl (gf1 hb124)) rfl ?_
                              refine s_skip (.u rfl rfl rfl) rfl ?_
                              refine s_skip (.u rfl rfl rfl) rfl ?_
                              refine s_skip (.u rfl rfl rfl) rfl ?_
                              refine s_skip (.u rfl rfl rfl) rfl ?_
                              refine s_skip (.u rfl rfl rfl) rfl ?_
                              refine s_skip (.u rfl rfl rfl) rfl ?_
                              refine s_skip (.u rfl rfl rfl) rfl ?_
                              refine s_skip (.u rfl rfl rfl) rfl ?_
                              refine s_skip (.u rfl rfl rfl) rfl ?_
                              refine s_skip (.g rfl rfl (gf1 hb124)) rfl ?_
                              refine s_pk1 hb124 (.n rfl) rfl rfl (.t rfl) .b ?_
                              refine s_nilq rfl ?_
                              refine r_cond (.t rfl) (fun _ => ?_) (fun hq => by cases hq)
                              refine r_seq ?_
                              refine r_region ?_
                              refine s_assign (.n rfl) rfl rfl .b ?_
                              refine s_nilq rfl ?_
                              cases ho
                              exact r_ret (fun fr h s => And.intro rfl (Exists.intro [] (s.pick [] ⟨rfl, trivial⟩ rfl (by decide))))
                            · have ho := cnd0 ho hb124
                              refine s_move (.g rfl rfl (gf0 hb124)) rfl rfl (.t rfl) ?_
                              refine s_cmp (.g rfl rfl (gf0 hb124)) rfl rfl (.t rfl) (.i (by decide) (by decide)) .gtr ?_
                              refine s_move (.g rfl rfl (gf0 hb124)) rfl rfl (.t rfl) ?_
                              refine s_fa F46_1 fk_StableLeave_1 (by decide) (.g rfl rfl (gt1 hb112)) rfl rfl (.t rfl) ?_
                              refine s_load U3 (.g rfl rfl (gt1 hb112)) rfl rfl (.t rfl) ?_
                              refine s_move (.g rfl rfl (gt1 hb112)) rfl rfl (.t rfl) ?_
                              refine s_move (.g rfl rfl (gt1 hb112)) rfl rfl (.t rfl) ?_
                              refine s_ar (.g rfl rfl (gt1 hb112)) rfl rfl (.t rfl) (.i (by decide) (by decide)) .sub ?_
                              obtain ⟨x126, hx126, ho⟩ := bnd ho
                              refine s_idx S33 hx126 (.g rfl rfl (gt1 hb112)) rfl rfl (.t rfl) (.t rfl) ?_
                              refine s_fa F46_1 fk_StableLeave_1 (by decide) (.g rfl rfl (gt1 hb112)) rfl rfl (.t rfl) ?_
                              refine s_load U3 (.g rfl rfl (gt1 hb112)) rfl rfl (.t rfl) ?_
                              refine s_cmp (.g rfl rfl (gt1 hb112)) rfl rfl (.t rfl) (.t rfl) .lss ?_
                              refine s_pk1 hb112 (.g rfl rfl (gf0 hb124)) rfl rfl (.t rfl) (.t rfl) ?_
                              refine s_pk0 hb124 (.n rfl) rfl rfl (.t rfl) (.t rfl) ?_
                              refine s_nilq rfl ?_
                              refine r_cond (.t rfl) (fun hq127 => ?_) (fun hq127 => ?_)
                              · have ho := cnd1 ho hq127
                                refine r_seq ?_
                                refine r_region ?_
                                refine s_assign (.n rfl) rfl rfl .b ?_
                                refine s_nilq rfl ?_
                                cases ho
                                exact r_ret (fun fr h s => And.intro rfl (Exists.intro [] (s.pick [] ⟨rfl, trivial⟩ rfl (by decide))))
                              · have ho := cnd0 ho hq127
                                refine r_skipq rfl ?_
                                refine r_region ?_
                                refine s_move (.n rfl) rfl rfl (.t rfl) ?_
                                refine s_ar (.n rfl) rfl rfl (.t rfl) (.i (by decide) (by decide)) .add ?_
                                refine s_assign (.n rfl) rfl rfl (.t rfl) ?_
                                cases ho
                                exact s_nil (fun fr h s => And.intro rfl (Exists.intro [] (s.pick [] ⟨rfl, rfl, rfl, trivial⟩ rfl (by decide))))
                      · have ho := cnd0 ho hb112
                        refine s_skip (.g rfl rfl (gt0 hb112)) rfl ?_
                        refine s_skip (.g rfl rfl (gt0 hb112)) rfl ?_
                        refine s_skip (.g rfl rfl (gt0 hb112)) rfl ?_
                        refine s_skip (.g rfl rfl (gt0 hb112)) rfl ?_
                        refine s_skip (.g rfl rfl (gt0 hb112)) rfl ?_
                        refine s_skip (.g rfl rfl (gt0 hb112)) rfl ?_
                        refine s_skip (.g rfl rfl (gt0 hb112)) rfl ?_
                        refine s_skip (.g rfl rfl (gt0 hb112)) rfl ?_
                        refine s_skip (.g rfl rfl (gt0 hb112)) rfl ?_
                        refine s_pk0 hb112 (.g rfl rfl (gf0 hb110)) rfl rfl (.t rfl) .b ?_
                        refine s_pk0 hb110 (.n rfl) rfl rfl (.t rfl) (.t rfl) ?_
                        refine s_nilq rfl ?_
                        refine r_cond (.t rfl) (fun hq => by cases hq) (fun _ => ?_)
                        refine r_skipq rfl ?_
                        refine r_seq ?_
                        refine r_draw [] (by kernel_rfl) ?_
                        refine s_fa F46_0 fk_StableLeave_0 (by decide) (.n rfl) rfl rfl (.t rfl) ?_
                        refine s_load U3 (.n rfl) rfl rfl (.t rfl) ?_
                        obtain ⟨y133, hy133, ho⟩ := bnd ho
                        refine s_calll (g_ref09_in_ok hy133) (.v flat_bool .n) rfl (.n rfl) rfl rfl rfl .f (.c (.o (.t rfl)) (.c (.o (.i (by decide) (by decide))) (.c (.o (.i (by decide) (by decide))) .n))) ?_
                        show SOps _ _ _ _ _ _ _ _
                        refine s_not (.n rfl) rfl rfl (.t rfl) ?_
                        refine s_move (.n rfl) rfl rfl (.t rfl) ?_
                        rcases Bool.eq_false_or_eq_true ((!y133)) with hb134 | hb134
                        · have ho := cnd1 ho hb134
                          refine s_skip (.g rfl rfl (gf1 hb134)) rfl ?_
                          refine s_skip (.g rfl rfl (gf1 hb134)) rfl ?_
                          refine s_skip (.g rfl rfl (gf1 hb134)) rfl ?_
                          refine s_skip (.g rfl rfl (gf1 hb134)) rfl ?_
                          refine s_pk1 hb134 (.n rfl) rfl rfl (.t rfl) .b ?_
                          refine s_move (.n rfl) rfl rfl (.t rfl) ?_
                          refine s_skip (.g rfl rfl rfl) rfl ?_
                          refine s_skip (.g rfl rfl rfl) rfl ?_
                          refine s_skip (.g rfl rfl rfl) rfl ?_
                          refine s_skip (.u rfl rfl rfl) rfl ?_
                          refine s_skip (.u rfl rfl rfl) rfl ?_
                          refine s_skip (.u rfl rfl rfl) rfl ?_
                          refine s_skip (.u rfl rfl rfl) rfl ?_
                          refine s_skip (.u rfl rfl rfl) rfl ?_
                          refine s_skip (.u rfl rfl rfl) rfl ?_
                          refine s_skip (.u rfl rfl rfl) rfl ?_
                          refine s_skip (.u rfl rfl rfl) rfl ?_
                          refine s_skip (.u rfl rfl rfl) rfl ?_
                          refine s_skip (.g rfl rfl rfl) rfl ?_
                          refine s_pick1 (.n rfl) rfl rfl (.t rfl) .b ?_
                          refine s_nilq rfl ?_
                          refine r_cond (.t rfl) (fun _ => ?_) (fun hq => by cases hq)
                          refine r_seq ?_
                          refine r_region ?_
                          refine s_assign (.n rfl) rfl rfl .b ?_
                          refine s_nilq rfl ?_
                          cases ho
                          exact r_ret (fun fr h s => And.intro rfl (Exists.intro [] (s.pick [] ⟨rfl, trivial⟩ rfl (by decide))))
                        · have ho := cnd0 ho hb134
                          refine s_fa F46_1 fk_StableLeave_1 (by decide) (.g rfl rfl (gf0 hb134)) rfl rfl (.t rfl) ?_
                          refine s_load U3 (.g rfl rfl (gf0 hb134)) rfl rfl (.t rfl) ?_
                          obtain ⟨y136, hy136, ho⟩ := bnd ho
                          refine s_calll (g_ref09_in_ok hy136) (.v flat_bool .n) rfl (.g rfl rfl (gf0 hb134)) rfl rfl rfl .f (.c (.o (.t rfl)) (.c (.o (.i (by decide) (by decide))) (.c (.o (.i (by decide) (by decide))) .n))) ?_
                          show SOps _ _ _ _ _ _ _ _
                          refine s_not (.g rfl rfl (gf0 hb134)) rfl rfl (.t rfl) ?_
                          refine s_pk0 hb134 (.n rfl) rfl rfl (.t rfl) (.t rfl) ?_
                          refine s_move (.n rfl) rfl rfl (.t rfl) ?_
                          rcases Bool.eq_false_or_eq_true ((!y136)) with hb137 | hb137
                          · have ho := cnd1 ho hb137
                            refine s_skip (.g rfl rfl (gf1 hb137)) rfl ?_
                            refine s_skip (.g rfl rfl (gf1 hb137)) rfl ?_
                            refine s_skip (.g rfl rfl (gf1 hb137)) rfl ?_
                            refine s_skip (.u rfl rfl rfl) rfl ?_
                            refine s_skip (.u rfl rfl rfl) rfl ?_
                            refine s_skip (.u rfl rfl rfl) rfl ?_
                            refine s_skip (.u rfl rfl rfl) rfl ?_
                            refine s_skip (.u rfl rfl rfl) rfl ?_
                            refine s_skip (.u rfl rfl rfl) rfl ?_
                            refine s_skip (.u rfl rfl rfl) rfl ?_
                            refine s_skip (.u rfl rfl rfl) rfl ?_
                            refine s_skip (.u rfl rfl rfl) rfl ?_
                            refine s_skip (.g rfl rfl (gf1 hb137)) rfl ?_
                            refine s_pk1 hb137 (.n rfl) rfl rfl (.t rfl) .b ?_
                            refine s_nilq rfl ?_
                            refine r_cond (.t rfl) (fun _ => ?_) (fun hq => by cases hq)
                            refine r_seq ?_
                            refine r_region ?_
                            refine s_assign (.n rfl) rfl rfl .b ?_
                            refine s_nilq rfl ?_
                            cases ho
                            exact r_ret (fun fr h s => And.intro rfl (Exists.intro [] (s.pick [] ⟨rfl, trivial⟩ rfl (by decide))))
                          · have ho := cnd0 ho hb137
                            refine s_move (.g rfl rfl (gf0 hb137)) rfl rfl (.t rfl) ?_
                            refine s_cmp (.g rfl rfl (gf0 hb137)) rfl rfl (.t rfl) (.i (by decide) (by decide)) .gtr ?_
                            refine s_move (.g rfl rfl (gf0 hb137)) rfl rfl (.t rfl) ?_
                            refine s_skip (.g rfl rfl (gt0 hb112)) rfl ?_
                            refine s_skip (.g rfl rfl (gt0 hb112)) rfl ?_
                            refine s_skip (.g rfl rfl (gt0 hb112)) rfl ?_
                            refine s_skip (.g rfl rfl (gt0 hb112)) rfl ?_
                            refine s_skip (.g rfl rfl (gt0 hb112)) rfl ?_
                            refine s_skip (.g rfl rfl (gt0 hb112)) rfl ?_
                            refine s_skip (.g rfl rfl (gt0 hb112)) rfl ?_
                            refine s_skip (.g rfl rfl (gt0 hb112)) rfl ?_
                            refine s_skip (.g rfl rfl (gt0 hb112)) rfl ?_
                            refine s_pk0 hb112 (.g rfl rfl (gf0 hb137)) rfl rfl (.t rfl) .b ?_
                            refine s_pk0 hb137 (.n rfl) rfl rfl (.t rfl) (.t rfl) ?_
                            refine s_nilq rfl ?_
                            refine r_cond (.t rfl) (fun hq => by cases hq) (fun _ => ?_)
                            refine r_skipq rfl ?_
                            refine r_region ?_
                            refine s_move (.n rfl) rfl rfl (.t rfl) ?_
                            refine s_ar (.n rfl) rfl rfl (.t rfl) (.i (by decide) (by decide)) .add ?_
                            refine s_assign (.n rfl) rfl rfl (.t rfl) ?_
                            cases ho
                            exact s_nil (fun fr h s => And.intro rfl (Exists.intro [] (s.pick [] ⟨rfl, rfl, rfl, trivial⟩ rfl (by decide))))
            · have ho := cnd0 ho hq83
              cases ho
              exact r_exit (fun fr h s => And.intro rfl (Exists.intro [] (s.pick [] trivial rfl (by decide))))
          · clear ht140
            rcases t140 with b142 | b143
            · have ho := alt_l ho
              intro g144
              show ∀ fr h, St _ [] [] fr h → _
              show SRun _ _ _ _ _ _
              refine r_seq ?_
              refine r_region ?_
              refine s_assign (.n rfl) rfl rfl .b ?_
              refine s_nilq rfl ?_
              cases ho
              exact r_ret (ret_of (.inr rfl) (.v rfl .n) (by decide))
            · have ho := alt_r ho
              intro g145
              show ∀ fr h, St _ [(6, .val rBool (b143))] [] fr h → _
              cases ho
              exact id (ret_of (.inr rfl) (.v rfl .n) (by decide))
        · have ho := alt_r ho
          intro g146
          show ∀ fr h, St _ [(6, .val rBool (b22))] [] fr h → _
          cases ho
          exact id (ret_of (.inr rfl) (.v rfl .n) (by decide))
theorem g_ref09_Moves_ok {p_0 : (List StableTrack)} {p_1 : (List StableCar)} {p_2 : (List StableLeave)} {p_3 : StablePlan} {out : (Int × Bool)} (ho : g_ref09_Moves p_0 p_1 p_2 p_3 = some out) : Fun ktab 33 [.val (rSlice rStableTrack) p_0, .val (rSlice rStableCar) p_1, .val (rSlice rStableLeave) p_2, .val rStablePlan p_3] [.val (rInt .i64) (out.1), .val rBool (out.2)] := by
  refine fun_of (F := Try.f33) (by rfl) (by rfl) (by rfl) (fun C hC => ?_)
  delta g_ref09_Moves at ho
  refine r_seq ?_
  refine r_region ?_
  refine s_box (.n rfl) rfl rfl (.t rfl) ?_
  refine s_assign (.n rfl) rfl rfl (.i (by decide) (by decide)) ?_
  refine s_assign (.n rfl) rfl rfl .b ?_
  refine s_nilq rfl ?_
  refine r_seq ?_
  refine r_region ?_
  refine s_move (.n rfl) rfl rfl (.t rfl) ?_
  refine s_len S32 (.n rfl) rfl rfl rfl rfl rfl (.t rfl) ?_
  refine s_assign (.n rfl) rfl rfl (.t rfl) ?_
  refine s_nilq rfl ?_
  refine r_seq ?_
  refine r_seq ?_
  obtain ⟨c6, hc6, ho⟩ := bnd ho
  refine r_cut (τ := (Bool)) (G := Unit) (fun t => (.normal, fun _ => ([(0, .val (rSlice rStableTrack) (p_0)), (1, .val (rSlice rStableCar) (p_1)), (2, .val (rSlice rStableLeave) (p_2)), (7, .val (rPtr rStablePlan) (p_3)), (10, .val (rInt .i64) ((lenI p_1))), (48, .val rBool (t))], []))) (t := c6) ?_ ?_
  · have ho := hc6
    clear hc6
    refine r_draw [] (by kernel_rfl) ?_
    refine s_fa F36_0 fk_StablePlan_0 (by decide) (.n rfl) rfl rfl (.t rfl) ?_
    refine s_load U22 (.n rfl) rfl rfl (.t rfl) ?_
    refine s_len S22 (.n rfl) rfl rfl rfl rfl rfl (.t rfl) ?_
    refine s_move (.n rfl) rfl rfl (.t rfl) ?_
    refine s_cmp (.n rfl) rfl rfl (.t rfl) (.t rfl) .neq ?_
    refine s_move (.n rfl) rfl rfl (.t rfl) ?_
    rcases Bool.eq_false_or_eq_true (((lenI p_3.1) != (lenI p_1))) with hb7 | hb7
    · have ho := cnd1 ho hb7
      refine s_skip (.g rfl rfl (gf1 hb7)) rfl ?_
      refine s_skip (.g rfl rfl (gf1 hb7)) rfl ?_
      refine s_skip (.g rfl rfl (gf1 hb7)) rfl ?_
      refine s_skip (.g rfl rfl (gf1 hb7)) rfl ?_
      refine s_skip (.g rfl rfl (gf1 hb7)) rfl ?_
      refine s_pk1 hb7 (.n rfl) rfl rfl (.t rfl) .b ?_
      refine s_move (.n rfl) rfl rfl (.t rfl) ?_
      refine s_skip (.g rfl rfl rfl) rfl ?_
      refine s_skip (.g rfl rfl rfl) rfl ?_
      refine s_skip (.g rfl rfl rfl) rfl ?_
      refine s_skip (.u rfl rfl rfl) rfl ?_
      refine s_skip (.u rfl rfl rfl) rfl ?_
      refine s_skip (.u rfl rfl rfl) rfl ?_
      refine s_skip (.u rfl rfl rfl) rfl ?_
      refine s_skip (.u rfl rfl rfl) rfl ?_
      refine s_skip (.u rfl rfl rfl) rfl ?_
      refine s_skip (.u rfl rfl rfl) rfl ?_
      refine s_skip (.u rfl rfl rfl) rfl ?_
      refine s_skip (.u rfl rfl rfl) rfl ?_
      refine s_skip (.u rfl rfl rfl) rfl ?_
      refine s_skip (.u rfl rfl rfl) rfl ?_
      refine s_skip (.g rfl rfl rfl) rfl ?_
      refine s_pick1 (.n rfl) rfl rfl (.t rfl) .b ?_
      cases ho
      exact s_nil (fun fr h s => And.intro rfl (Exists.intro () (s.pick [] ⟨rfl, rfl, rfl, rfl, rfl, rfl, trivial⟩ rfl (by decide))))
    · have ho := cnd0 ho hb7
      refine s_fa F36_1 fk_StablePlan_1 (by decide) (.g rfl rfl (gf0 hb7)) rfl rfl (.t rfl) ?_
      refine s_load U22 (.g rfl rfl (gf0 hb7)) rfl rfl (.t rfl) ?_
      refine s_len S22 (.g rfl rfl (gf0 hb7)) rfl rfl rfl rfl rfl (.t rfl) ?_
      refine s_move (.g rfl rfl (gf0 hb7)) rfl rfl (.t rfl) ?_
      refine s_cmp (.g rfl rfl (gf0 hb7)) rfl rfl (.t rfl) (.t rfl) .neq ?_
      refine s_pk0 hb7 (.n rfl) rfl rfl (.t rfl) (.t rfl) ?_
      refine s_move (.n rfl) rfl rfl (.t rfl) ?_
      rcases Bool.eq_false_or_eq_true (((lenI p_3.2.1) != (lenI p_1))) with hb8 | hb8
      · have ho := cnd1 ho hb8
        refine s_skip (.g rfl rfl (gf1 hb8)) rfl ?_
        refine s_skip (.g rfl rfl (gf1 hb8)) rfl ?_
        refine s_skip (.g rfl rfl (gf1 hb8)) rfl ?_
        refine s_skip (.u rfl rfl rfl) rfl ?_
        refine s_skip (.u rfl rfl rfl) rfl ?_
        refine s_skip (.u rfl rfl rfl) rfl ?_
        refine s_skip (.u rfl rfl rfl) rfl ?_
        refine s_skip (.u rfl rfl rfl) rfl ?_
        refine s_skip (.u rfl rfl rfl) rfl ?_
        refine s_skip (.u rfl rfl rfl) rfl ?_
        refine s_skip (.u rfl rfl rfl) rfl ?_
        refine s_skip (.u rfl rfl rfl) rfl ?_
        refine s_skip (.u rfl rfl rfl) rfl ?_
        refine s_skip (.u rfl rfl rfl) rfl ?_
        refine s_skip (.g rfl rfl (gf1 hb8)) rfl ?_
        refine s_pk1 hb8 (.n rfl) rfl rfl (.t rfl) .b ?_
        cases ho
        exact s_nil (fun fr h s => And.intro rfl (Exists.intro () (s.pick [] ⟨rfl, rfl, rfl, rfl, rfl, rfl, trivial⟩ rfl (by decide))))
      · have ho := cnd0 ho hb8
        refine s_move (.g rfl rfl (gf0 hb8)) rfl rfl (.t rfl) ?_
        refine s_cmp (.g rfl rfl (gf0 hb8)) rfl rfl (.t rfl) (.i (by decide) (by decide)) .gtr ?_
        refine s_move (.g rfl rfl (gf0 hb8)) rfl rfl (.t rfl) ?_
        rcases Bool.eq_false_or_eq_true ((decide ((lenI p_1) > 0))) with hb9 | hb9
        · have ho := cnd1 ho hb9
          refine s_move (.g rfl rfl (gt1 hb9)) rfl rfl (.t rfl) ?_
          refine s_move (.g rfl rfl (gt1 hb9)) rfl rfl (.t rfl) ?_
          refine s_ar (.g rfl rfl (gt1 hb9)) rfl rfl (.t rfl) (.i (by decide) (by decide)) .sub ?_
          obtain ⟨x10, hx10, ho⟩ := bnd ho
          refine s_idx S32 hx10 (.g rfl rfl (gt1 hb9)) rfl rfl (.t rfl) (.t rfl) ?_
          refine s_fa F44_2 fk_StableCar_2 (by decide) (.g rfl rfl (gt1 hb9)) rfl rfl (.t rfl) ?_
          refine s_load U3 (.g rfl rfl (gt1 hb9)) rfl rfl (.t rfl) ?_
          refine s_move (.g rfl rfl (gt1 hb9)) rfl rfl (.t rfl) ?_
          obtain ⟨x11, hx11, ho⟩ := bnd ho
          refine s_idx S33 hx11 (.g rfl rfl (gt1 hb9)) rfl rfl (.t rfl) (.i (by decide) (by decide)) ?_
          refine s_fa F46_1 fk_StableLeave_1 (by decide) (.g rfl rfl (gt1 hb9)) rfl rfl (.t rfl) ?_
          refine s_load U3 (.g rfl rfl (gt1 hb9)) rfl rfl (.t rfl) ?_
          refine s_cmp (.g rfl rfl (gt1 hb9)) rfl rfl (.t rfl) (.t rfl) .gtr ?_
          refine s_pk1 hb9 (.g rfl rfl (gf0 hb8)) rfl rfl (.t rfl) (.t rfl) ?_
          refine s_pk0 hb8 (.n rfl) rfl rfl (.t rfl) (.t rfl) ?_
          cases ho
          exact s_nil (fun fr h s => And.intro rfl (Exists.intro () (s.pick [] ⟨rfl, rfl, rfl, rfl, rfl, rfl, trivial⟩ rfl (by decide))))
        · have ho := cnd0 ho hb9
          refine s_skip (.g rfl rfl (gt0 hb9)) rfl ?_
          refine s_skip (.g rfl rfl (gt0 hb9)) rfl ?_
          refine s_skip (.g rfl rfl (gt0 hb9)) rfl ?_
          refine s_skip (.g rfl rfl (gt0 hb9)) rfl ?_
          refine s_skip (.g rfl rfl (gt0 hb9)) rfl ?_
          refine s_skip (.g rfl rfl (gt0 hb9)) rfl ?_
          refine s_skip (.g rfl rfl (gt0 hb9)) rfl ?_
          refine s_skip (.g rfl rfl (gt0 hb9)) rfl ?_
          refine s_skip (.g rfl rfl (gt0 hb9)) rfl ?_
          refine s_skip (.g rfl rfl (gt0 hb9)) rfl ?_
          refine s_skip (.g rfl rfl (gt0 hb9)) rfl ?_
          refine s_pk0 hb9 (.g rfl rfl (gf0 hb8)) rfl rfl (.t rfl) .b ?_
          refine s_pk0 hb8 (.n rfl) rfl rfl (.t rfl) (.t rfl) ?_
          cases ho
          exact s_nil (fun fr h s => And.intro rfl (Exists.intro () (s.pick [] ⟨rfl, rfl, rfl, rfl, rfl, rfl, trivial⟩ rfl (by decide))))
  · intro _
    show SRun _ _ _ _ _ _
    refine r_cond (.t rfl) (fun hq12 => ?_) (fun hq12 => ?_)
    · have ho := cnd1 ho hq12
      refine r_seq ?_
      refine r_region ?_
      refine s_assign (.n rfl) rfl rfl (.i (by decide) (by decide)) ?_
      refine s_assign (.n rfl) rfl rfl .b ?_
      refine s_nilq rfl ?_
      cases ho
      exact r_ret (ret_of (.inr rfl) (.v rfl (.v rfl .n)) (by decide))
    · have ho := cnd0 ho hq12
      refine r_skipq rfl ?_
      refine r_seq ?_
      refine r_region ?_
      refine s_move (.n rfl) rfl rfl (.t rfl) ?_
      refine s_len S31 (.n rfl) rfl rfl rfl rfl rfl (.t rfl) ?_
      obtain ⟨x13, hx13, ho⟩ := bnd ho
      refine s_mk S22 Y3 Z3 hx13 (.n rfl) rfl rfl (.t rfl) (.t rfl) ?_
      intro v14
      refine s_assign (.n rfl) rfl rfl (.t rfl) ?_
      refine s_nilq rfl ?_
      refine r_seq ?_
      refine r_region ?_
      refine s_move (.n rfl) rfl rfl (.t rfl) ?_
      obtain ⟨x16, hx16, ho⟩ := bnd ho
      refine s_mk S84 Y4 Z4 hx16 (.n rfl) rfl rfl (.t rfl) (.t rfl) ?_
      intro v17
      refine s_assign (.n rfl) rfl rfl (.t rfl) ?_
      refine s_nilq rfl ?_
      refine r_seq ?_
      refine r_seq ?_
      refine r_region ?_
      refine s_assign (.n rfl) rfl rfl (.i (by decide) (by decide)) ?_
      refine s_nilq rfl ?_
      refine r_block ?_
      obtain ⟨t168, ht168, ho⟩ := bnd ho
      refine r_loop (σ := (Int × (List Bool) × (List Int))) (τ := ((List Bool) × (List Int)) ⊕ (Int × Bool × (List Bool) × (List Int))) (G := List AVal) (fun s g => ([(0, .val (rSlice rStableTrack) (p_0)), (1, .val (rSlice rStableCar) (p_1)), (2, .val (rSlice rStableLeave) (p_2)), (7, .val (rPtr rStablePlan) (p_3)), (10, .val (rInt .i64) ((lenI p_1))), (11, .raw v14), (12, .raw v17), (13, .val (rInt .i64) (s.1))], [(v17, .row rBool (s.2.1)), (v14, .row (rInt .i64) (s.2.2))])) (altX (fun b => (.exit 0, fun g => ([(0, .val (rSlice rStableTrack) (p_0)), (7, .val (rPtr rStablePlan) (p_3)), (10, .val (rInt .i64) ((lenI p_1)))], []))) (fun b => (.ret, fun g => ([(8, .val (rInt .i64) (b.1)), (9, .val rBool (b.2.1))], [])))) _ [] ht168 (fun fr h s => s.pick [0, 1] ⟨rfl, rfl, rfl, rfl, rfl, rfl, rfl, rfl, trivial⟩ rfl (by decide)) ?_ ?_ ?_
      · intro t
        rcases t with t | t
        · exact (show (.exit 0 : AExit) ≠ .normal from fun e => by cases e)
        · exact (show (.ret : AExit) ≠ .normal from fun e => by cases e)
      · clear ho
        intro s117 g118 r169 ho
        refine r_seq ?_
        refine r_seq ?_
        refine r_region ?_
        refine s_move (.n rfl) rfl rfl (.t rfl) ?_
        refine s_move (.n rfl) rfl rfl (.t rfl) ?_
        refine s_cmp (.n rfl) rfl rfl (.t rfl) (.t rfl) .lss ?_
        refine s_nilq rfl ?_
        refine r_cond (.t rfl) (fun hq119 => ?_) (fun hq119 => ?_)
        · have ho := cnd1 ho hq119
          refine r_skipq rfl ?_
          refine r_seq ?_
          refine r_block ?_
          refine r_seq ?_
          refine r_seq ?_
          refine r_region ?_
          refine s_fa F36_0 fk_StablePlan_0 (by decide) (.n rfl) rfl rfl (.t rfl) ?_
          refine s_load U22 (.n rfl) rfl rfl (.t rfl) ?_
          refine s_move (.n rfl) rfl rfl (.t rfl) ?_
          obtain ⟨x128, hx128, ho⟩ := bnd ho
          refine s_idx S22 hx128 (.n rfl) rfl rfl (.t rfl) (.t rfl) ?_
          refine s_load U3 (.n rfl) rfl rfl (.t rfl) ?_
          refine s_move (.n rfl) rfl rfl (.t rfl) ?_
          refine s_len S31 (.n rfl) rfl rfl rfl rfl rfl (.t rfl) ?_
          refine s_ar (.n rfl) rfl rfl (.t rfl) (.i (by decide) (by decide)) .sub ?_
          obtain ⟨y129, hy129, ho⟩ := bnd ho
          refine s_calll (g_ref09_in_ok hy129) (.v flat_bool .n) rfl (.n rfl) rfl rfl rfl .f (.c (.o (.t rfl)) (.c (.o (.i (by decide) (by decide))) (.c (.o (.t rfl)) .n))) ?_
          show SOps _ _ _ _ _ _ _ _
          refine s_not (.n rfl) rfl rfl (.t rfl) ?_
          refine s_move (.n rfl) rfl rfl (.t rfl) ?_
          rcases Bool.eq_false_or_eq_true ((!y129)) with hb130 | hb130
          · have ho := cnd1 ho hb130
            refine s_skip (.g rfl rfl (gf1 hb130)) rfl ?_
            refine s_skip (.g rfl rfl (gf1 hb130)) rfl ?_
            refine s_skip (.g rfl rfl (gf1 hb130)) rfl ?_
            refine s_skip (.g rfl rfl (gf1 hb130)) rfl ?_
            refine s_skip (.g rfl rfl (gf1 hb130)) rfl ?_
            refine s_skip (.g rfl rfl (gf1 hb130)) rfl ?_
            refine s_skip (.g rfl rfl (gf1 hb130)) rfl ?_
            refine s_skip (.g rfl rfl (gf1 hb130)) rfl ?_
            refine s_skip (.g rfl rfl (gf1 hb130)) rfl ?_
            refine s_pk1 hb130 (.n rfl) rfl rfl (.t rfl) .b ?_
            refine s_move (.n rfl) rfl rfl (.t rfl) ?_
            refine s_skip (.g rfl rfl rfl) rfl ?_
            refine s_skip (.g rfl rfl rfl) rfl ?_
            refine s_skip (.g rfl rfl rfl) rfl ?_
            refine s_skip (.g rfl rfl rfl) rfl ?_
            refine s_skip (.g rfl rfl rfl) rfl ?_
            refine s_skip (.g rfl rfl rfl) rfl ?_
            refine s_skip (.g rfl rfl rfl) rfl ?_
            refine s_skip (.g rfl rfl rfl) rfl ?_
            refine s_pick1 (.n rfl) rfl rfl (.t rfl) .b ?_
            refine s_nilq rfl ?_
            refine r_cond (.t rfl) (fun _ => ?_) (fun hq => by cases hq)
            refine r_seq ?_
            refine r_region ?_
            refine s_assign (.n rfl) rfl rfl (.i (by decide) (by decide)) ?_
            refine s_assign (.n rfl) rfl rfl .b ?_
            refine s_nilq rfl ?_
            cases ho
            exact r_ret (fun fr h s => And.intro rfl (Exists.intro [] (s.pick [] ⟨rfl, rfl, trivial⟩ rfl (by decide))))
          · have ho := cnd0 ho hb130
            refine s_fa F36_1 fk_StablePlan_1 (by decide) (.g rfl rfl (gf0 hb130)) rfl rfl (.t rfl) ?_
            refine s_load U22 (.g rfl rfl (gf0 hb130)) rfl rfl (.t rfl) ?_
            refine s_move (.g rfl rfl (gf0 hb130)) rfl rfl (.t rfl) ?_
            obtain ⟨x132, hx132, ho⟩ := bnd ho
            refine s_idx S22 hx132 (.g rfl rfl (gf0 hb130)) rfl rfl (.t rfl) (.t rfl) ?_
            refine s_load U3 (.g rfl rfl (gf0 hb130)) rfl rfl (.t rfl) ?_
            refine s_move (.g rfl rfl (gf0 hb130)) rfl rfl (.t rfl) ?_
            refine s_ar (.g rfl rfl (gf0 hb130)) rfl rfl (.t rfl) (.i (by decide) (by decide)) .sub ?_
            obtain ⟨y133, hy133, ho⟩ := bnd ho
            refine s_calll (g_ref09_in_ok hy133) (.v flat_bool .n) rfl (.g rfl rfl (gf0 hb130)) rfl rfl rfl .f (.c (.o (.t rfl)) (.c (.o (.i (by decide) (by decide))) (.c (.o (.t rfl)) .n))) ?_
            show SOps _ _ _ _ _ _ _ _
            refine s_not (.g rfl rfl (gf0 hb130)) rfl rfl (.t rfl) ?_
            refine s_pk0 hb130 (.n rfl) rfl rfl (.t rfl) (.t rfl) ?_
            refine s_move (.n rfl) rfl rfl (.t rfl) ?_
            rcases Bool.eq_false_or_eq_true ((!y133)) with hb134 | hb134
            · have ho := cnd1 ho hb134
              refine s_skip (.g rfl rfl (gf1 hb134)) rfl ?_
              refine s_skip (.g rfl rfl (gf1 hb134)) rfl ?_
              refine s_skip (.g rfl rfl (gf1 hb134)) rfl ?_
              refine s_skip (.g rfl rfl (gf1 hb134)) rfl ?_
              refine s_skip (.g rfl rfl (gf1 hb134)) rfl ?_
              refine s_skip (.g rfl rfl (gf1 hb134)) rfl ?_
              refine s_skip (.g rfl rfl (gf1 hb134)) rfl ?_
              refine s_skip (.g rfl rfl (gf1 hb134)) rfl ?_
              refine s_pk1 hb134 (.n rfl) rfl rfl (.t rfl) .b ?_
              refine s_nilq rfl ?_
              refine r_cond (.t rfl) (fun _ => ?_) (fun hq => by cases hq)
              refine r_seq ?_
              refine r_region ?_
              refine s_assign (.n rfl) rfl rfl (.i (by decide) (by decide)) ?_
              refine s_assign (.n rfl) rfl rfl .b ?_
              refine s_nilq rfl ?_
              cases ho
              exact r_ret (fun fr h s => And.intro rfl (Exists.intro [] (s.pick [] ⟨rfl, rfl, trivial⟩ rfl (by decide))))
            · have ho := cnd0 ho hb134
              refine s_move (.g rfl rfl (gf0 hb134)) rfl rfl (.t rfl) ?_
              refine s_fa F36_1 fk_StablePlan_1 (by decide) (.g rfl rfl (gf0 hb134)) rfl rfl (.t rfl) ?_
              refine s_load U22 (.g rfl rfl (gf0 hb134)) rfl rfl (.t rfl) ?_
              refine s_move (.g rfl rfl (gf0 hb134)) rfl rfl (.t rfl) ?_
              obtain ⟨x136, hx136, ho⟩ := bnd ho
              refine s_idx S22 hx136 (.g rfl rfl (gf0 hb134)) rfl rfl (.t rfl) (.t rfl) ?_
              refine s_load U3 (.g rfl rfl (gf0 hb134)) rfl rfl (.t rfl) ?_
              obtain ⟨x137, hx137, ho⟩ := bnd ho
              refine s_idxo 0 S84 hx137 (.g rfl rfl (gf0 hb134)) rfl rfl (.t rfl) rfl (.t rfl) ?_
              refine s_loado 0 (fun _ h => by cases h <;> rfl) U4 FOk.self (idx_inv hx137).2.2.2 (.g rfl rfl (gf0 hb134)) rfl rfl (.t rfl) rfl ?_
              refine s_pk0 hb134 (.n rfl) rfl rfl (.t rfl) (.t rfl) ?_
              refine s_nilq rfl ?_
              refine r_cond (.t rfl) (fun hq138 => ?_) (fun hq138 => ?_)
              · have ho := cnd1 ho hq138
                refine r_seq ?_
                refine r_region ?_
                refine s_assign (.n rfl) rfl rfl (.i (by decide) (by decide)) ?_
                refine s_assign (.n rfl) rfl rfl .b ?_
                refine s_nilq rfl ?_
                cases ho
                exact r_ret (fun fr h s => And.intro rfl (Exists.intro [] (s.pick [] ⟨rfl, rfl, trivial⟩ rfl (by decide))))
              · have ho := cnd0 ho hq138
                refine r_skipq rfl ?_
                refine r_seq ?_
                refine r_region ?_
                refine s_move (.n rfl) rfl rfl (.t rfl) ?_
                refine s_fa F36_1 fk_StablePlan_1 (by decide) (.n rfl) rfl rfl (.t rfl) ?_
                refine s_load U22 (.n rfl) rfl rfl (.t rfl) ?_
                refine s_move (.n rfl) rfl rfl (.t rfl) ?_
                obtain ⟨x139, hx139, ho⟩ := bnd ho
                refine s_idx S22 hx139 (.n rfl) rfl rfl (.t rfl) (.t rfl) ?_
                refine s_load U3 (.n rfl) rfl rfl (.t rfl) ?_
                obtain ⟨x140, hx140, ho⟩ := bnd ho
                refine s_idxo 0 S84 hx140 (.n rfl) rfl rfl (.t rfl) rfl (.t rfl) ?_
                refine s_storeo 0 U4 FOk.self (idx_inv hx140).2.2.2 (.n rfl) rfl rfl (.t rfl) .b rfl rfl ?_
                refine s_nilq rfl ?_
                refine r_seq ?_
                refine r_seq ?_
                refine r_region ?_
                refine s_move (.n rfl) rfl rfl (.t rfl) ?_
                refine s_fa F36_1 fk_StablePlan_1 (by decide) (.n rfl) rfl rfl (.t rfl) ?_
                refine s_load U22 (.n rfl) rfl rfl (.t rfl) ?_
                refine s_move (.n rfl) rfl rfl (.t rfl) ?_
                obtain ⟨x141, hx141, ho⟩ := bnd ho
                refine s_idx S22 hx141 (.n rfl) rfl rfl (.t rfl) (.t rfl) ?_
                refine s_load U3 (.n rfl) rfl rfl (.t rfl) ?_
                obtain ⟨x142, hx142, ho⟩ := bnd ho
                refine s_idx S33 hx142 (.n rfl) rfl rfl (.t rfl) (.t rfl) ?_
                refine s_load U46 (.n rfl) rfl rfl (.t rfl) ?_
                refine s_alloc (zv := .agg [.int .i64 0, .int .i64 0]) (es := [.val (rInt .i64) (0), .val (rInt .i64) (0)]) (by kernel_rfl) (fun _ => (okint (okint okn))) rfl (.n rfl) rfl rfl ?_
                intro b143
                refine s_storebs 0 U46 rfl (cells_pair (cells_one rfl) (cells_pair (cells_one rfl) cells_unit rfl) rfl) (by rfl) (.n rfl) rfl rfl (.t rfl) (.t rfl) (by rfl) ?_
                refine s_st (st_freezeb (R := rStableLeave) (a := x142) 0 [14] (cells_pair (cells_one rfl) (cells_pair (cells_one rfl) cells_unit rfl) rfl) rfl rfl ⟨rfl, trivial⟩) ?_
                refine s_nilq rfl ?_
                refine r_seq ?_
                refine r_draw [] (by kernel_rfl) ?_
                refine s_fa F46_0 fk_StableLeave_0 (by decide) (.n rfl) rfl rfl (.t rfl) ?_
                refine s_load U3 (.n rfl) rfl rfl (.t rfl) ?_
                refine s_move (.n rfl) rfl rfl (.t rfl) ?_
                refine s_move (.n rfl) rfl rfl (.t rfl) ?_
                obtain ⟨x150, hx150, ho⟩ := bnd ho
                refine s_idx S32 hx150 (.n rfl) rfl rfl (.t rfl) (.t rfl) ?_
                refine s_fa F44_0 fk_StableCar_0 (by decide) (.n rfl) rfl rfl (.t rfl) ?_
                refine s_load U3 (.n rfl) rfl rfl (.t rfl) ?_
                refine s_cmp (.n rfl) rfl rfl (.t rfl) (.t rfl) .neq ?_
                refine s_move (.n rfl) rfl rfl (.t rfl) ?_
                rcases Bool.eq_false_or_eq_true ((x142.1 != x150.1)) with hb151 | hb151
                · have ho := cnd1 ho hb151
                  refine s_skip (.g rfl rfl (gf1 hb151)) rfl ?_
                  refine s_skip (.g rfl rfl (gf1 hb151)) rfl ?_
                  refine s_skip (.g rfl rfl (gf1 hb151)) rfl ?_
                  refine s_skip (.g rfl rfl (gf1 hb151)) rfl ?_
                  refine s_skip (.g rfl rfl (gf1 hb151)) rfl ?_
                  refine s_skip (.g rfl rfl (gf1 hb151)) rfl ?_
                  refine s_skip (.g rfl rfl (gf1 hb151)) rfl ?_
                  refine s_skip (.g rfl rfl (gf1 hb151)) rfl ?_
                  refine s_pk1 hb151 (.n rfl) rfl rfl (.t rfl) .b ?_
                  refine s_move (.n rfl) rfl rfl (.t rfl) ?_
                  refine s_skip (.g rfl rfl rfl) rfl ?_
                  refine s_skip (.g rfl rfl rfl) rfl ?_
                  refine s_skip (.g rfl rfl rfl) rfl ?_
                  refine s_skip (.g rfl rfl rfl) rfl ?_
                  refine s_skip (.g rfl rfl rfl) rfl ?_
                  refine s_skip (.g rfl rfl rfl) rfl ?_
                  refine s_skip (.g rfl rfl rfl) rfl ?_
                  refine s_skip (.g rfl rfl rfl) rfl ?_
                  refine s_pick1 (.n rfl) rfl rfl (.t rfl) .b ?_
                  refine s_nilq rfl ?_
                  refine r_cond (.t rfl) (fun _ => ?_) (fun hq => by cases hq)
                  refine r_seq ?_
                  refine r_region ?_
                  refine s_assign (.n rfl) rfl rfl (.i (by decide) (by decide)) ?_
                  refine s_assign (.n rfl) rfl rfl .b ?_
                  refine s_nilq rfl ?_
                  cases ho
                  exact r_ret (fun fr h s => And.intro rfl (Exists.intro [] (s.pick [] ⟨rfl, rfl, trivial⟩ rfl (by decide))))
                · have ho := cnd0 ho hb151
                  refine s_fa F46_1 fk_StableLeave_1 (by decide) (.g rfl rfl (gf0 hb151)) rfl rfl (.t rfl) ?_
                  refine s_load U3 (.g rfl rfl (gf0 hb151)) rfl rfl (.t rfl) ?_
                  refine s_move (.g rfl rfl (gf0 hb151)) rfl rfl (.t rfl) ?_
                  refine s_move (.g rfl rfl (gf0 hb151)) rfl rfl (.t rfl) ?_
                  obtain ⟨x153, hx153, ho⟩ := bnd ho
                  refine s_idx S32 hx153 (.g rfl rfl (gf0 hb151)) rfl rfl (.t rfl) (.t rfl) ?_
                  refine s_fa F44_3 fk_StableCar_3 (by decide) (.g rfl rfl (gf0 hb151)) rfl rfl (.t rfl) ?_
                  refine s_load U3 (.g rfl rfl (gf0 hb151)) rfl rfl (.t rfl) ?_
                  refine s_cmp (.g rfl rfl (gf0 hb151)) rfl rfl (.t rfl) (.t rfl) .gtr ?_
                  refine s_pk0 hb151 (.n rfl) rfl rfl (.t rfl) (.t rfl) ?_
                  refine s_move (.n rfl) rfl rfl (.t rfl) ?_
                  rcases Bool.eq_false_or_eq_true ((decide (x142.2.1 > x153.2.2.2.1))) with hb154 | hb154
                  · have ho := cnd1 ho hb154
                    refine s_skip (.g rfl rfl (gf1 hb154)) rfl ?_
                    refine s_skip (.g rfl rfl (gf1 hb154)) rfl ?_
                    refine s_skip (.g rfl rfl (gf1 hb154)) rfl ?_
                    refine s_skip (.g rfl rfl (gf1 hb154)) rfl ?_
                    refine s_skip (.g rfl rfl (gf1 hb154)) rfl ?_
                    refine s_skip (.g rfl rfl (gf1 hb154)) rfl ?_
                    refine s_skip (.g rfl rfl (gf1 hb154)) rfl ?_
                    refine s_skip (.g rfl rfl (gf1 hb154)) rfl ?_
                    refine s_pk1 hb154 (.n rfl) rfl rfl (.t rfl) .b ?_
                    refine s_nilq rfl ?_
                    refine r_cond (.t rfl) (fun _ => ?_) (fun hq => by cases hq)
                    refine r_seq ?_
                    refine r_region ?_
                    refine s_assign (.n rfl) rfl rfl (.i (by decide) (by decide)) ?_
                    refine s_assign (.n rfl) rfl rfl .b ?_
                    refine s_nilq rfl ?_
                    cases ho
                    exact r_ret (fun fr h s => And.intro rfl (Exists.intro [] (s.pick [] ⟨rfl, rfl, trivial⟩ rfl (by decide))))
                  · have ho := cnd0 ho hb154
                    refine s_fa F46_1 fk_StableLeave_1 (by decide) (.g rfl rfl (gf0 hb154)) rfl rfl (.t rfl) ?_
                    refine s_load U3 (.g rfl rfl (gf0 hb154)) rfl rfl (.t rfl) ?_
                    refine s_move (.g rfl rfl (gf0 hb154)) rfl rfl (.t rfl) ?_
                    refine s_move (.g rfl rfl (gf0 hb154)) rfl rfl (.t rfl) ?_
                    obtain ⟨x156, hx156, ho⟩ := bnd ho
                    refine s_idx S32 hx156 (.g rfl rfl (gf0 hb154)) rfl rfl (.t rfl) (.t rfl) ?_
                    refine s_fa F44_2 fk_StableCar_2 (by decide) (.g rfl rfl (gf0 hb154)) rfl rfl (.t rfl) ?_
                    refine s_load U3 (.g rfl rfl (gf0 hb154)) rfl rfl (.t rfl) ?_
                    refine s_cmp (.g rfl rfl (gf0 hb154)) rfl rfl (.t rfl) (.t rfl) .lss ?_
                    refine s_pk0 hb154 (.n rfl) rfl rfl (.t rfl) (.t rfl) ?_
                    refine s_nilq rfl ?_
                    refine r_cond (.t rfl) (fun hq157 => ?_) (fun hq157 => ?_)
                    · have ho := cnd1 ho hq157
                      refine r_seq ?_
                      refine r_region ?_
                      refine s_assign (.n rfl) rfl rfl (.i (by decide) (by decide)) ?_
                      refine s_assign (.n rfl) rfl rfl .b ?_
                      refine s_nilq rfl ?_
                      cases ho
                      exact r_ret (fun fr h s => And.intro rfl (Exists.intro [] (s.pick [] ⟨rfl, rfl, trivial⟩ rfl (by decide))))
                    · have ho := cnd0 ho hq157
                      refine r_skipq rfl ?_
                      refine r_seq ?_
                      refine r_draw [13] (by kernel_rfl) ?_
                      refine s_move (.n rfl) rfl rfl (.t rfl) ?_
                      refine s_fa F36_0 fk_StablePlan_0 (by decide) (.n rfl) rfl rfl (.t rfl) ?_
                      refine s_load U22 (.n rfl) rfl rfl (.t rfl) ?_
                      refine s_move (.n rfl) rfl rfl (.t rfl) ?_
                      obtain ⟨x158, hx158, ho⟩ := bnd ho
                      refine s_idx S22 hx158 (.n rfl) rfl rfl (.t rfl) (.t rfl) ?_
                      refine s_load U3 (.n rfl) rfl rfl (.t rfl) ?_
                      refine s_move (.n rfl) rfl rfl (.t rfl) ?_
                      refine s_fa F36_0 fk_StablePlan_0 (by decide) (.n rfl) rfl rfl (.t rfl) ?_
                      refine s_load U22 (.n rfl) rfl rfl (.t rfl) ?_
                      refine s_move (.n rfl) rfl rfl (.t rfl) ?_
                      obtain ⟨x159, hx159, ho⟩ := bnd ho
                      refine s_idx S22 hx159 (.n rfl) rfl rfl (.t rfl) (.t rfl) ?_
                      refine s_load U3 (.n rfl) rfl rfl (.t rfl) ?_
                      obtain ⟨x160, hx160, ho⟩ := bnd ho
                      refine s_idxo 1 S22 hx160 (.n rfl) rfl rfl (.t rfl) rfl (.t rfl) ?_
                      refine s_loado 1 (fun _ h => by cases h <;> rfl) U3 FOk.self (idx_inv hx160).2.2.2 (.n rfl) rfl rfl (.t rfl) rfl ?_
                      refine s_move (.n rfl) rfl rfl (.t rfl) ?_
                      refine s_move (.n rfl) rfl rfl (.t rfl) ?_
                      obtain ⟨x161, hx161, ho⟩ := bnd ho
                      refine s_idx S32 hx161 (.n rfl) rfl rfl (.t rfl) (.t rfl) ?_
                      refine s_fa F44_1 fk_StableCar_1 (by decide) (.n rfl) rfl rfl (.t rfl) ?_
                      refine s_load U3 (.n rfl) rfl rfl (.t rfl) ?_
                      refine s_ar (.n rfl) rfl rfl (.t rfl) (.t rfl) .add ?_
                      obtain ⟨x162, hx162, ho⟩ := bnd ho
                      refine s_idxo 1 S22 hx162 (.n rfl) rfl rfl (.t rfl) rfl (.t rfl) ?_
                      refine s_storeo 1 U3 FOk.self (idx_inv hx162).2.2.2 (.n rfl) rfl rfl (.t rfl) (.t rfl) rfl rfl ?_
                      refine s_nilq rfl ?_
                      refine r_seq ?_
                      refine r_draw [7] (by kernel_rfl) ?_
                      refine s_move (.n rfl) rfl rfl (.t rfl) ?_
                      refine s_fa F36_0 fk_StablePlan_0 (by decide) (.n rfl) rfl rfl (.t rfl) ?_
                      refine s_load U22 (.n rfl) rfl rfl (.t rfl) ?_
                      refine s_move (.n rfl) rfl rfl (.t rfl) ?_
                      obtain ⟨x163, hx163, ho⟩ := bnd ho
                      refine s_idx S22 hx163 (.n rfl) rfl rfl (.t rfl) (.t rfl) ?_
                      refine s_load U3 (.n rfl) rfl rfl (.t rfl) ?_
                      obtain ⟨x164, hx164, ho⟩ := bnd ho
                      refine s_idxo 1 S22 hx164 (.n rfl) rfl rfl (.t rfl) rfl (.t rfl) ?_
                      refine s_loado 1 (fun _ h => by cases h <;> rfl) U3 FOk.self (idx_inv hx164).2.2.2 (.n rfl) rfl rfl (.t rfl) rfl ?_
                      refine s_move (.n rfl) rfl rfl (.t rfl) ?_
                      refine s_fa F36_0 fk_StablePlan_0 (by decide) (.n rfl) rfl rfl (.t rfl) ?_
                      refine s_load U22 (.n rfl) rfl rfl (.t rfl) ?_
                      refine s_move (.n rfl) rfl rfl (.t rfl) ?_
                      obtain ⟨x165, hx165, ho⟩ := bnd ho
                      refine s_idx S22 hx165 (.n rfl) rfl rfl (.t rfl) (.t rfl) ?_
                      refine s_load U3 (.n rfl) rfl rfl (.t rfl) ?_
                      obtain ⟨x166, hx166, ho⟩ := bnd ho
                      refine s_idx S31 hx166 (.n rfl) rfl rfl (.t rfl) (.t rfl) ?_
                      refine s_fa F48_0 fk_StableTrack_0 (by decide) (.n rfl) rfl rfl (.t rfl) ?_
                      refine s_load U3 (.n rfl) rfl rfl (.t rfl) ?_
                      refine s_cmp (.n rfl) rfl rfl (.t rfl) (.t rfl) .gtr ?_
                      refine s_nilq rfl ?_
                      refine r_cond (.t rfl) (fun hq167 => ?_) (fun hq167 => ?_)
                      · have ho := cnd1 ho hq167
                        refine r_seq ?_
                        refine r_region ?_
                        refine s_assign (.n rfl) rfl rfl (.i (by decide) (by decide)) ?_
                        refine s_assign (.n rfl) rfl rfl .b ?_
                        refine s_nilq rfl ?_
                        cases ho
                        exact r_ret (fun fr h s => And.intro rfl (Exists.intro [] (s.pick [] ⟨rfl, rfl, trivial⟩ rfl (by decide))))
                      · have ho := cnd0 ho hq167
                        refine r_skipq rfl ?_
                        refine r_region ?_
                        refine s_move (.n rfl) rfl rfl (.t rfl) ?_
                        refine s_ar (.n rfl) rfl rfl (.t rfl) (.i (by decide) (by decide)) .add ?_
                        refine s_assign (.n rfl) rfl rfl (.t rfl) ?_
                        cases ho
                        exact s_nil (fun fr h s => And.intro rfl (Exists.intro [] (s.pick [0, 1] ⟨rfl, rfl, rfl, rfl, rfl, rfl, rfl, rfl, trivial⟩ rfl (by decide))))
        · have ho := cnd0 ho hq119
          cases ho
          exact r_exit (fun fr h s => And.intro rfl (Exists.intro [] (s.pick [] ⟨rfl, rfl, rfl, trivial⟩ rfl (by decide))))
      · clear ht168
        rcases t168 with b170 | b171
        · have ho := alt_l ho
          intro g172
          show ∀ fr h, St _ [(0, .val (rSlice rStableTrack) (p_0)), (7, .val (rPtr rStablePlan) (p_3)), (10, .val (rInt .i64) ((lenI p_1)))] [] fr h → _
          show SRun _ _ _ _ _ _
          refine r_seq ?_
          refine r_region ?_
          refine s_assign (.n rfl) rfl rfl (.i (by decide) (by decide)) ?_
          refine s_nilq rfl ?_
          refine r_seq ?_
          refine r_seq ?_
          refine r_region ?_
          refine s_assign (.n rfl) rfl rfl (.i (by decide) (by decide)) ?_
          refine s_nilq rfl ?_
          refine r_block ?_
          obtain ⟨t247, ht247, ho⟩ := bnd ho
          refine r_loop (σ := (Int × Int)) (τ := (Int)) (G := List AVal) (fun s g => ([(0, .val (rSlice rStableTrack) (p_0)), (7, .val (rPtr rStablePlan) (p_3)), (10, .val (rInt .i64) ((lenI p_1))), (15, .val (rInt .i64) (s.1)), (16, .val (rInt .i64) (s.2))], [])) (fun b => (.exit 2, fun g => ([(15, .val (rInt .i64) (b))], []))) _ [] ht247 (fun fr h s => s.pick [] ⟨rfl, rfl, rfl, rfl, rfl, trivial⟩ rfl (by decide)) ?_ ?_ ?_
          · intro t
            exact (show (.exit 2 : AExit) ≠ .normal from fun e => by cases e)
          · clear ho
            intro s209 g210 r248 ho
            refine r_seq ?_
            refine r_seq ?_
            refine r_region ?_
            refine s_move (.n rfl) rfl rfl (.t rfl) ?_
            refine s_move (.n rfl) rfl rfl (.t rfl) ?_
            refine s_cmp (.n rfl) rfl rfl (.t rfl) (.t rfl) .lss ?_
            refine s_nilq rfl ?_
            refine r_cond (.t rfl) (fun hq211 => ?_) (fun hq211 => ?_)
            · have ho := cnd1 ho hq211
              refine r_skipq rfl ?_
              refine r_seq ?_
              refine r_block ?_
              refine r_seq ?_
              refine r_region ?_
              refine s_assign (.n rfl) rfl rfl (.i (by decide) (by decide)) ?_
              refine s_nilq rfl ?_
              refine r_block ?_
              obtain ⟨t244, ht244, ho⟩ := bnd ho
              refine r_loop (σ := (Int × Int)) (τ := (Int)) (G := List AVal) (fun s g => ([(0, .val (rSlice rStableTrack) (p_0)), (7, .val (rPtr rStablePlan) (p_3)), (10, .val (rInt .i64) ((lenI p_1))), (15, .val (rInt .i64) (s.1)), (16, .val (rInt .i64) (s209.2)), (17, .val (rInt .i64) (s.2))], [])) (fun b => (.exit 4, fun g => ([(0, .val (rSlice rStableTrack) (p_0)), (7, .val (rPtr rStablePlan) (p_3)), (10, .val (rInt .i64) ((lenI p_1))), (15, .val (rInt .i64) (b)), (16, .val (rInt .i64) (s209.2))], []))) _ [] ht244 (fun fr h s => s.pick [] ⟨rfl, rfl, rfl, rfl, rfl, rfl, trivial⟩ rfl (by decide)) ?_ ?_ ?_
              · intro t
                exact (show (.exit 4 : AExit) ≠ .normal from fun e => by cases e)
              · clear ho
                intro s227 g228 r245 ho
                refine r_seq ?_
                refine r_seq ?_
                refine r_region ?_
                refine s_move (.n rfl) rfl rfl (.t rfl) ?_
                refine s_move (.n rfl) rfl rfl (.t rfl) ?_
                refine s_cmp (.n rfl) rfl rfl (.t rfl) (.t rfl) .lss ?_
                refine s_nilq rfl ?_
                refine r_cond (.t rfl) (fun hq229 => ?_) (fun hq229 => ?_)
                · have ho := cnd1 ho hq229
                  refine r_skipq rfl ?_
                  refine r_seq ?_
                  refine r_block ?_
                  refine r_seq ?_
                  refine r_draw [] (by kernel_rfl) ?_
                  refine s_fa F36_0 fk_StablePlan_0 (by decide) (.n rfl) rfl rfl (.t rfl) ?_
                  refine s_load U22 (.n rfl) rfl rfl (.t rfl) ?_
                  refine s_move (.n rfl) rfl rfl (.t rfl) ?_
                  obtain ⟨x236, hx236, ho⟩ := bnd ho
                  refine s_idx S22 hx236 (.n rfl) rfl rfl (.t rfl) (.t rfl) ?_
                  refine s_load U3 (.n rfl) rfl rfl (.t rfl) ?_
                  refine s_fa F36_0 fk_StablePlan_0 (by decide) (.n rfl) rfl rfl (.t rfl) ?_
                  refine s_load U22 (.n rfl) rfl rfl (.t rfl) ?_
                  refine s_move (.n rfl) rfl rfl (.t rfl) ?_
                  obtain ⟨x237, hx237, ho⟩ := bnd ho
                  refine s_idx S22 hx237 (.n rfl) rfl rfl (.t rfl) (.t rfl) ?_
                  refine s_load U3 (.n rfl) rfl rfl (.t rfl) ?_
                  refine s_cmp (.n rfl) rfl rfl (.t rfl) (.t rfl) .eql ?_
                  refine s_move (.n rfl) rfl rfl (.t rfl) ?_
                  rcases Bool.eq_false_or_eq_true ((x236 == x237)) with hb238 | hb238
                  · have ho := cnd1 ho hb238
                    refine s_fa F36_1 fk_StablePlan_1 (by decide) (.g rfl rfl (gt1 hb238)) rfl rfl (.t rfl) ?_
                    refine s_load U22 (.g rfl rfl (gt1 hb238)) rfl rfl (.t rfl) ?_
                    refine s_move (.g rfl rfl (gt1 hb238)) rfl rfl (.t rfl) ?_
                    refine s_fa F36_0 fk_StablePlan_0 (by decide) (.g rfl rfl (gt1 hb238)) rfl rfl (.t rfl) ?_
                    refine s_load U22 (.g rfl rfl (gt1 hb238)) rfl rfl (.t rfl) ?_
                    refine s_move (.g rfl rfl (gt1 hb238)) rfl rfl (.t rfl) ?_
                    obtain ⟨x239, hx239, ho⟩ := bnd ho
                    refine s_idx S22 hx239 (.g rfl rfl (gt1 hb238)) rfl rfl (.t rfl) (.t rfl) ?_
                    refine s_load U3 (.g rfl rfl (gt1 hb238)) rfl rfl (.t rfl) ?_
                    obtain ⟨x240, hx240, ho⟩ := bnd ho
                    refine s_idx S31 hx240 (.g rfl rfl (gt1 hb238)) rfl rfl (.t rfl) (.t rfl) ?_
                    refine s_fa F48_1 fk_StableTrack_1 (by decide) (.g rfl rfl (gt1 hb238)) rfl rfl (.t rfl) ?_
                    refine s_load U4 (.g rfl rfl (gt1 hb238)) rfl rfl (.t rfl) ?_
                    refine s_move (.g rfl rfl (gt1 hb238)) rfl rfl (.t rfl) ?_
                    refine s_move (.g rfl rfl (gt1 hb238)) rfl rfl (.t rfl) ?_
                    obtain ⟨y241, hy241, ho⟩ := bnd ho
                    refine s_calll (g_ref09_InWay_ok hy241) (.v flat_bool .n) rfl (.g rfl rfl (gt1 hb238)) rfl rfl rfl .f (.c (.o (.t rfl)) (.c (.o (.t rfl)) (.c (.o (.t rfl)) (.c (.o (.t rfl)) .n)))) ?_
                    show SOps _ _ _ _ _ _ _ _
                    refine s_pk1 hb238 (.n rfl) rfl rfl (.t rfl) (.t rfl) ?_
                    refine s_nilq rfl ?_
                    refine r_cond (.t rfl) (fun hq242 => ?_) (fun hq242 => ?_)
                    · have ho := cnd1 ho hq242
                      refine r_region ?_
                      refine s_move (.n rfl) rfl rfl (.t rfl) ?_
                      refine s_ar (.n rfl) rfl rfl (.t rfl) (.i (by decide) (by decide)) .add ?_
                      refine s_assign (.n rfl) rfl rfl (.t rfl) ?_
                      refine s_nilq rfl ?_
                      refine r_region ?_
                      refine s_move (.n rfl) rfl rfl (.t rfl) ?_
                      refine s_ar (.n rfl) rfl rfl (.t rfl) (.i (by decide) (by decide)) .add ?_
                      refine s_assign (.n rfl) rfl rfl (.t rfl) ?_
                      cases ho
                      exact s_nil (fun fr h s => And.intro rfl (Exists.intro [] (s.pick [] ⟨rfl, rfl, rfl, rfl, rfl, rfl, trivial⟩ rfl (by decide))))
                    · have ho := cnd0 ho hq242
                      refine r_skipq rfl ?_
                      refine r_region ?_
                      refine s_move (.n rfl) rfl rfl (.t rfl) ?_
                      refine s_ar (.n rfl) rfl rfl (.t rfl) (.i (by decide) (by decide)) .add ?_
                      refine s_assign (.n rfl) rfl rfl (.t rfl) ?_
                      cases ho
                      exact s_nil (fun fr h s => And.intro rfl (Exists.intro [] (s.pick [] ⟨rfl, rfl, rfl, rfl, rfl, rfl, trivial⟩ rfl (by decide))))
                  · have ho := cnd0 ho hb238
                    refine s_skip (.g rfl rfl (gt0 hb238)) rfl ?_
                    refine s_skip (.g rfl rfl (gt0 hb238)) rfl ?_
                    refine s_skip (.g rfl rfl (gt0 hb238)) rfl ?_
                    refine s_skip (.g rfl rfl (gt0 hb238)) rfl ?_
                    refine s_skip (.g rfl rfl (gt0 hb238)) rfl ?_
                    refine s_skip (.g rfl rfl (gt0 hb238)) rfl ?_
                    refine s_skip (.g rfl rfl (gt0 hb238)) rfl ?_
                    refine s_skip (.g rfl rfl (gt0 hb238)) rfl ?_
                    refine s_skip (.g rfl rfl (gt0 hb238)) rfl ?_
                    refine s_skip (.g rfl rfl (gt0 hb238)) rfl ?_
                    refine s_skip (.g rfl rfl (gt0 hb238)) rfl ?_
                    refine s_skip (.g rfl rfl (gt0 hb238)) rfl ?_
                    refine s_skip (.g rfl rfl (gt0 hb238)) rfl ?_
                    refine s_skip (.g rfl rfl (gt0 hb238)) rfl ?_
                    refine s_pk0 hb238 (.n rfl) rfl rfl (.t rfl) .b ?_
                    refine s_nilq rfl ?_
                    refine r_cond (.t rfl) (fun hq => by cases hq) (fun _ => ?_)
                    refine r_skipq rfl ?_
                    refine r_region ?_
                    refine s_move (.n rfl) rfl rfl (.t rfl) ?_
                    refine s_ar (.n rfl) rfl rfl (.t rfl) (.i (by decide) (by decide)) .add ?_
                    refine s_assign (.n rfl) rfl rfl (.t rfl) ?_
                    cases ho
                    exact s_nil (fun fr h s => And.intro rfl (Exists.intro [] (s.pick [] ⟨rfl, rfl, rfl, rfl, rfl, rfl, trivial⟩ rfl (by decide))))
                · have ho := cnd0 ho hq229
                  cases ho
                  exact r_exit (fun fr h s => And.intro rfl (Exists.intro [] (s.pick [] ⟨rfl, rfl, rfl, rfl, rfl, trivial⟩ rfl (by decide))))
              · intro g246
                show ∀ fr h, St _ [(0, .val (rSlice rStableTrack) (p_0)), (7, .val (rPtr rStablePlan) (p_3)), (10, .val (rInt .i64) ((lenI p_1))), (15, .val (rInt .i64) (t244)), (16, .val (rInt .i64) (s209.2))] [] fr h → _
                show SRun _ _ _ _ _ _
                refine r_region ?_
                refine s_move (.n rfl) rfl rfl (.t rfl) ?_
                refine s_ar (.n rfl) rfl rfl (.t rfl) (.i (by decide) (by decide)) .add ?_
                refine s_assign (.n rfl) rfl rfl (.t rfl) ?_
                cases ho
                exact s_nil (fun fr h s => And.intro rfl (Exists.intro [] (s.pick [] ⟨rfl, rfl, rfl, rfl, rfl, trivial⟩ rfl (by decide))))
            · have ho := cnd0 ho hq211
              cases ho
              exact r_exit (fun fr h s => And.intro rfl (Exists.intro [] (s.pick [] ⟨rfl, trivial⟩ rfl (by decide))))
          · intro g249
            show ∀ fr h, St _ [(15, .val (rInt .i64) (t247))] [] fr h → _
            show SRun _ _ _ _ _ _
            refine r_seq ?_
            refine r_region ?_
            refine s_move (.n rfl) rfl rfl (.t rfl) ?_
            refine s_assign (.n rfl) rfl rfl (.t rfl) ?_
            refine s_assign (.n rfl) rfl rfl .b ?_
            refine s_nilq rfl ?_
            cases ho
            exact r_ret (ret_of (.inr rfl) (.v rfl (.v rfl .n)) (by decide))
        · have ho := alt_r ho
          intro g250
          show ∀ fr h, St _ [(8, .val (rInt .i64) (b171.1)), (9, .val rBool (b171.2.1))] [] fr h → _
          cases ho
          exact id (ret_of (.inr rfl) (.v rfl (.v rfl .n)) (by decide))
theorem g_depot_night_moves_ok {n_0 : depot_night} {p_1 : StablePlan} {out : (Int)} (ho : g_depot_night_moves n_0 p_1 = some out) : Fun ktab 59 [.val (rPtr rdepot_night) n_0, .val rStablePlan p_1] [.val (rInt .i64) (out)] := by
  refine fun_of (F := Try.f59) (by rfl) (by rfl) (by rfl) (fun C hC => ?_)
  delta g_depot_night_moves at ho
  refine r_seq ?_
  refine r_region ?_
  refine s_box (.n rfl) rfl rfl (.t rfl) ?_
  refine s_assign (.n rfl) rfl rfl (.i (by decide) (by decide)) ?_
  refine s_nilq rfl ?_
  refine r_seq ?_
  refine r_region ?_
  refine s_alloc (zv := .int .i64 0) (es := [.val (rInt .i64) (0)]) (by kernel_rfl) (fun _ => (okint okn)) rfl (.n rfl) rfl rfl ?_
  intro b1
  refine s_storeb 0 (U3).sz rfl (by exact Nat.le_of_ble_eq_true rfl) (.n rfl) rfl rfl (.t rfl) (.i (by decide) (by decide)) rfl rfl ?_
  refine s_nilq rfl ?_
  refine r_seq ?_
  refine r_seq ?_
  refine r_region ?_
  refine s_move (.n rfl) rfl rfl (.t rfl) ?_
  refine s_load U36 (.n rfl) rfl rfl (.t rfl) ?_
  obtain ⟨y3, hy3, ho⟩ := bnd ho
  refine s_call (pre := []) (post := []) (vs := []) (g_depot_night_leave_ok hy3) rfl (.n rfl) rfl rfl rfl .f (.c (.t rfl) (.c (.t rfl) .n)) ?_
  show SOps _ _ _ _ _ _ _ _
  refine s_nilq rfl ?_
  refine r_block ?_
  obtain ⟨t7, ht7, ho⟩ := bnd ho
  refine r_range (σ := (Int)) (τ := Unit) (X := (Int × (List Int))) (ins := (fun x => [.val (rInt .i64) (x.1), .val (rSlice (rInt .i64)) (x.2)])) (altO (fun s g => [(.ptr b1 0, .box [.val (rInt .i64) (s)])]) (fun _ _ => [])) (fun _ => none) (s0 := 0) (r := t7) [] [0] [] rfl (.t rfl) rfl rfl (by decide) (fun _ => rfl) (fun yv K hcb γ => g_depot_night_leave_1_ok hcb ht7 γ) ?_ ?_
  · clear ho ht7
    intro s5 g6 x4 r8 ho C
    refine r_region ?_
    refine s_assign (.n rfl) rfl rfl (.t rfl) ?_
    refine s_nil (fun fr h s => And.intro rfl (Exists.intro _ (Exists.intro _ (And.intro s (fun C => ?_)))))
    refine r_block ?_
    refine r_region ?_
    refine s_loadb 0 (fun _ h => by cases h <;> rfl) (U3).agg rfl (.n rfl) rfl rfl (.t rfl) rfl ?_
    refine s_move (.n rfl) rfl rfl (.t rfl) ?_
    refine s_len S22 (.n rfl) rfl rfl rfl rfl rfl (.t rfl) ?_
    refine s_ar (.n rfl) rfl rfl (.t rfl) (.t rfl) .add ?_
    refine s_storeb 0 (U3).sz rfl (by exact Nat.le_of_ble_eq_true rfl) (.n rfl) rfl rfl (.t rfl) (.t rfl) rfl rfl ?_
    cases ho
    exact s_nil (fun fr h s => And.intro rfl (Exists.intro [] (s.pick [0] trivial rfl (by decide))))
  · clear ht7
    have hz := bnd ho
    clear ho
    obtain ⟨b9, h12, ho⟩ := hz
    have h12 := goL_inv h12
    subst h12
    intro g11
    refine st_wk (Γ' := [(0, .val (rPtr rdepot_night) (n_0)), (1, .val rStablePlan (p_1)), (3, .val (rPtr rStablePlan) (p_1)), (4, .val (rInt .i64) (0)), (5, .raw (.ptr b1 0)), (8, .val (rPtr rdepot_night) (n_0)), (9, .val rStablePlan (p_1)), (10, .val (rClo 78 [] [.val (rPtr (rPtr rdepot_night)) (y3.1), .val (rPtr rStablePlan) (y3.2)]) ())]) (L' := [(.ptr b1 0, .box [.val (rInt .i64) (b9)])]) [0] ⟨rfl, rfl, rfl, rfl, rfl, rfl, rfl, rfl, trivial⟩ rfl (by decide) ?_
    show ∀ fr h, St _ [(0, .val (rPtr rdepot_night) (n_0)), (1, .val rStablePlan (p_1)), (3, .val (rPtr rStablePlan) (p_1)), (4, .val (rInt .i64) (0)), (5, .raw (.ptr b1 0)), (8, .val (rPtr rdepot_night) (n_0)), (9, .val rStablePlan (p_1)), (10, .val (rClo 78 [] [.val (rPtr (rPtr rdepot_night)) (y3.1), .val (rPtr rStablePlan) (y3.2)]) ())] [(.ptr b1 0, .box [.val (rInt .i64) (b9)])] fr h → _
    show SRun _ _ _ _ _ _
    refine r_seq ?_
    refine r_region ?_
    refine s_loadb 0 (fun _ h => by cases h <;> rfl) (U3).agg rfl (.n rfl) rfl rfl (.t rfl) rfl ?_
    refine s_assign (.n rfl) rfl rfl (.t rfl) ?_
    refine s_nilq rfl ?_
    cases ho
    exact r_ret (ret_of (.inr rfl) (.v rfl .n) (by decide))
theorem g_depot_Moves_ok {tracks_0 : (List StableTrack)} {cars_1 : (List StableCar)} {leaves_2 : (List StableLeave)} {p_3 : StablePlan} {out : (Int × Bool)} (ho : g_depot_Moves tracks_0 cars_1 leaves_2 p_3 = some out) : Fun ktab 31 [.val (rSlice rStableTrack) tracks_0, .val (rSlice rStableCar) cars_1, .val (rSlice rStableLeave) leaves_2, .val rStablePlan p_3] [.val (rInt .i64) (out.1), .val rBool (out.2)] := by
  refine fun_of (F := Try.f31) (by rfl) (by rfl) (by rfl) (fun C hC => ?_)
  delta g_depot_Moves at ho
  refine r_seq ?_
  refine r_region ?_
  refine s_box (.n rfl) rfl rfl (.t rfl) ?_
  refine s_assign (.n rfl) rfl rfl (.i (by decide) (by decide)) ?_
  refine s_assign (.n rfl) rfl rfl .b ?_
  refine s_nilq rfl ?_
  refine r_seq ?_
  refine r_region ?_
  refine s_move (.n rfl) rfl rfl (.t rfl) ?_
  refine s_move (.n rfl) rfl rfl (.t rfl) ?_
  refine s_move (.n rfl) rfl rfl (.t rfl) ?_
  refine s_build (R := rdepot_night) B89 (.n rfl) rfl rfl rfl (.p (.t rfl) rfl (.p (.t rfl) rfl (.p (.t rfl) rfl (.n rfl)))) ?_
  refine s_box (.n rfl) rfl rfl (.t rfl) ?_
  refine s_assign (.n rfl) rfl rfl (.t rfl) ?_
  refine s_nilq rfl ?_
  refine r_seq ?_
  refine r_seq ?_
  obtain ⟨c4, hc4, ho⟩ := bnd ho
  refine r_cut (τ := (Bool)) (G := Unit) (fun t => (.normal, fun _ => ([(7, .val (rPtr rStablePlan) (p_3)), (10, .val (rPtr rdepot_night) (((tracks_0, cars_1, leaves_2, ()) : depot_night))), (24, .val rBool (t))], []))) (t := c4) ?_ ?_
  · have ho := hc4
    clear hc4
    refine r_region ?_
    refine s_move (.n rfl) rfl rfl (.t rfl) ?_
    obtain ⟨y5, hy5, ho⟩ := bnd ho
    refine s_calll (g_depot_night_valid_ok hy5) (.v flat_bool .n) rfl (.n rfl) rfl rfl rfl .f (.c (.o (.t rfl)) .n) ?_
    show SOps _ _ _ _ _ _ _ _
    refine s_not (.n rfl) rfl rfl (.t rfl) ?_
    refine s_move (.n rfl) rfl rfl (.t rfl) ?_
    rcases Bool.eq_false_or_eq_true ((!y5)) with hb6 | hb6
    · have ho := cnd1 ho hb6
      refine s_skip (.g rfl rfl (gf1 hb6)) rfl ?_
      refine s_skip (.g rfl rfl (gf1 hb6)) rfl ?_
      refine s_skip (.g rfl rfl (gf1 hb6)) rfl ?_
      refine s_skip (.g rfl rfl (gf1 hb6)) rfl ?_
      refine s_pk1 hb6 (.n rfl) rfl rfl (.t rfl) .b ?_
      cases ho
      exact s_nil (fun fr h s => And.intro rfl (Exists.intro () (s.pick [] ⟨rfl, rfl, rfl, trivial⟩ rfl (by decide))))
    · have ho := cnd0 ho hb6
      refine s_move (.g rfl rfl (gf0 hb6)) rfl rfl (.t rfl) ?_
      refine s_load U36 (.g rfl rfl (gf0 hb6)) rfl rfl (.t rfl) ?_
      obtain ⟨y7, hy7, ho⟩ := bnd ho
      refine s_calll (g_depot_night_plan_ok hy7) (.v flat_bool .n) rfl (.g rfl rfl (gf0 hb6)) rfl rfl rfl .f (.c (.o (.t rfl)) (.c (.o (.t rfl)) .n)) ?_
      show SOps _ _ _ _ _ _ _ _
      refine s_not (.g rfl rfl (gf0 hb6)) rfl rfl (.t rfl) ?_
      refine s_pk0 hb6 (.n rfl) rfl rfl (.t rfl) (.t rfl) ?_
      cases ho
      exact s_nil (fun fr h s => And.intro rfl (Exists.intro () (s.pick [] ⟨rfl, rfl, rfl, trivial⟩ rfl (by decide))))
  · intro _
    show SRun _ _ _ _ _ _
    refine r_cond (.t rfl) (fun hq8 => ?_) (fun hq8 => ?_)
    · have ho := cnd1 ho hq8
      refine r_seq ?_
      refine r_region ?_
      refine s_assign (.n rfl) rfl rfl (.i (by decide) (by decide)) ?_
      refine s_assign (.n rfl) rfl rfl .b ?_
      refine s_nilq rfl ?_
      cases ho
      exact r_ret (ret_of (.inr rfl) (.v rfl (.v rfl .n)) (by decide))
    · have ho := cnd0 ho hq8
      refine r_skipq rfl ?_
      refine r_seq ?_
      refine r_region ?_
      refine s_move (.n rfl) rfl rfl (.t rfl) ?_
      refine s_load U36 (.n rfl) rfl rfl (.t rfl) ?_
      obtain ⟨y9, hy9, ho⟩ := bnd ho
      refine s_calll (g_depot_night_moves_ok hy9) (.v flat_int .n) rfl (.n rfl) rfl rfl rfl .f (.c (.o (.t rfl)) (.c (.o (.t rfl)) .n)) ?_
      show SOps _ _ _ _ _ _ _ _
      refine s_assign (.n rfl) rfl rfl (.t rfl) ?_
      refine s_assign (.n rfl) rfl rfl .b ?_
      refine s_nilq rfl ?_
      cases ho
      exact r_ret (ret_of (.inr rfl) (.v rfl (.v rfl .n)) (by decide))
end Go.Ai.TabYtpiblfbidgcjaaa
