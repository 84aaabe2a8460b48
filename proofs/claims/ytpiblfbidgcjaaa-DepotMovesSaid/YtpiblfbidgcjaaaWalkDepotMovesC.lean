/- Written by program: walks through functions. -/
import Derived.Test.YtpiblfbidgcjaaaWalkDepotMovesP0C
namespace Go.Ai.TabYtpiblfbidgcjaaa
open Go Go.Ai Go.Ai.Sx Go.Proofs
attribute [local irreducible] SOps
set_option maxRecDepth 100000
theorem g_ref09_Play_ok {p_0 : (List StableTrack)} {p_1 : (List StableCar)} {p_2 : StablePlan} {out : ((List StableMove))} (ho : g_ref09_Play p_0 p_1 p_2 = some out) : Fun ktab 34 [.val (rSlice rStableTrack) p_0, .val (rSlice rStableCar) p_1, .val rStablePlan p_2] [.row rStableMove (out)] := by
  refine fun_of (F := Try.f34) (by rfl) (by rfl) (by rfl) (fun C hC => ?_)
  delta g_ref09_Play at ho
  refine r_seq ?_
  refine r_region ?_
  refine s_box (.n rfl) rfl rfl (.t rfl) ?_
  refine s_st (st_nilrow rStableMove) ?_
  refine s_assign (.n rfl) rfl rfl .nilr ?_
  refine s_nilq rfl ?_
  refine r_seq ?_
  refine r_region ?_
  refine s_st (st_nilrow rStableMove) ?_
  refine s_assign (.n rfl) rfl rfl .nilr ?_
  refine s_nilq rfl ?_
  refine r_seq ?_
  refine r_seq ?_
  refine r_region ?_
  refine s_assign (.n rfl) rfl rfl (.i (by decide) (by decide)) ?_
  refine s_nilq rfl ?_
  refine r_block ?_
  obtain ⟨t20, ht20, ho⟩ := bnd ho
  refine r_loop (σ := ((List StableMove) × Int)) (τ := ((List StableMove))) (G := List AVal) (fun s g => ([(0, .val (rSlice rStableTrack) (p_0)), (1, .val (rSlice rStableCar) (p_1)), (5, .val (rPtr rStablePlan) (p_2)), (7, .raw ((gh g 0))), (8, .val (rInt .i64) (s.2))], [((gh g 0), .row rStableMove (s.1))])) (fun b => (.exit 0, fun g => ([(0, .val (rSlice rStableTrack) (p_0)), (1, .val (rSlice rStableCar) (p_1)), (5, .val (rPtr rStablePlan) (p_2)), (7, .raw ((gh g 0)))], [((gh g 0), .row rStableMove (b))]))) _ [.nilslice] ht20 (fun fr h s => s.pick [0] ⟨rfl, rfl, rfl, rfl, rfl, trivial⟩ rfl (by decide)) ?_ ?_ ?_
  · intro t
    exact (show (.exit 0 : AExit) ≠ .normal from fun e => by cases e)
  · clear ho
    intro s9 g10 r21 ho
    refine r_seq ?_
    refine r_seq ?_
    refine r_region ?_
    refine s_move (.n rfl) rfl rfl (.t rfl) ?_
    refine s_move (.n rfl) rfl rfl (.t rfl) ?_
    refine s_len S32 (.n rfl) rfl rfl rfl rfl rfl (.t rfl) ?_
    refine s_cmp (.n rfl) rfl rfl (.t rfl) (.t rfl) .lss ?_
    refine s_nilq rfl ?_
    refine r_cond (.t rfl) (fun hq14 => ?_) (fun hq14 => ?_)
    · have ho := cnd1 ho hq14
      refine r_skipq rfl ?_
      refine r_seq ?_
      refine r_block ?_
      refine r_region ?_
      refine s_move (.n rfl) rfl rfl (.t rfl) ?_
      refine s_move (.n rfl) rfl rfl (.t rfl) ?_
      refine s_fa F36_0 fk_StablePlan_0 (by decide) (.n rfl) rfl rfl (.t rfl) ?_
      refine s_load U22 (.n rfl) rfl rfl (.t rfl) ?_
      refine s_move (.n rfl) rfl rfl (.t rfl) ?_
      obtain ⟨x15, hx15, ho⟩ := bnd ho
      refine s_idx S22 hx15 (.n rfl) rfl rfl (.t rfl) (.t rfl) ?_
      refine s_load U3 (.n rfl) rfl rfl (.t rfl) ?_
      refine s_build (R := rStableMove) B71 (.n rfl) rfl rfl rfl (.p (.i (by decide) (by decide)) rfl (.p (.t rfl) rfl (.p (.t rfl) rfl (.n rfl)))) ?_
      refine s_bs (R := rStableMove) S65 Y71 (.n rfl) rfl rfl (.c (.t rfl) .n) rfl (by decide) ?_
      obtain ⟨x16, hx16, ho⟩ := bnd ho
      refine s_app 0 S65 Y71 hx16 (.n rfl) rfl rfl rfl rfl rfl (.t rfl) rfl (.t rfl) rfl ?_
      intro v17
      refine s_assign (.n rfl) rfl rfl (.t rfl) ?_
      refine s_nilq rfl ?_
      refine r_region ?_
      refine s_move (.n rfl) rfl rfl (.t rfl) ?_
      refine s_ar (.n rfl) rfl rfl (.t rfl) (.i (by decide) (by decide)) .add ?_
      refine s_assign (.n rfl) rfl rfl (.t rfl) ?_
      cases ho
      exact s_nil (fun fr h s => And.intro rfl (Exists.intro [v17] (s.pick [0] ⟨rfl, rfl, rfl, rfl, rfl, trivial⟩ rfl (by decide))))
    · have ho := cnd0 ho hq14
      cases ho
      exact r_exit (fun fr h s => And.intro rfl (Exists.intro [(gh g10 0)] (s.pick [0] ⟨rfl, rfl, rfl, rfl, trivial⟩ rfl (by decide))))
  · intro g22
    show ∀ fr h, St _ [(0, .val (rSlice rStableTrack) (p_0)), (1, .val (rSlice rStableCar) (p_1)), (5, .val (rPtr rStablePlan) (p_2)), (7, .raw ((gh g22 0)))] [((gh g22 0), .row rStableMove (t20))] fr h → _
    show SRun _ _ _ _ _ _
    refine r_seq ?_
    refine r_region ?_
    refine s_move (.n rfl) rfl rfl (.t rfl) ?_
    refine s_len S32 (.n rfl) rfl rfl rfl rfl rfl (.t rfl) ?_
    obtain ⟨x24, hx24, ho⟩ := bnd ho
    refine s_mk S84 Y4 Z4 hx24 (.n rfl) rfl rfl (.t rfl) (.t rfl) ?_
    intro v25
    refine s_assign (.n rfl) rfl rfl (.t rfl) ?_
    refine s_nilq rfl ?_
    refine r_seq ?_
    refine r_seq ?_
    refine r_region ?_
    refine s_assign (.n rfl) rfl rfl (.i (by decide) (by decide)) ?_
    refine s_nilq rfl ?_
    refine r_block ?_
    obtain ⟨t317, ht317, ho⟩ := bnd ho
    refine r_loop (σ := ((List StableMove) × Int × (List Bool))) (τ := ((List StableMove) × (List Bool))) (G := List AVal) (fun s g => ([(0, .val (rSlice rStableTrack) (p_0)), (1, .val (rSlice rStableCar) (p_1)), (5, .val (rPtr rStablePlan) (p_2)), (7, .raw ((gh g 0))), (9, .raw v25), (10, .val (rInt .i64) (s.2.1))], [(v25, .row rBool (s.2.2)), ((gh g 0), .row rStableMove (s.1))])) (fun b => (.exit 2, fun g => ([(7, .raw ((gh g 0)))], [((gh g 0), .row rStableMove (b.1))]))) _ [(gh g22 0)] ht317 (fun fr h s => s.pick [0, 1] ⟨rfl, rfl, rfl, rfl, rfl, rfl, trivial⟩ rfl (by decide)) ?_ ?_ ?_
    · intro t
      exact (show (.exit 2 : AExit) ≠ .normal from fun e => by cases e)
    · clear ho
      intro s216 g217 r318 ho
      refine r_seq ?_
      refine r_seq ?_
      refine r_region ?_
      refine s_move (.n rfl) rfl rfl (.t rfl) ?_
      refine s_move (.n rfl) rfl rfl (.t rfl) ?_
      refine s_len S32 (.n rfl) rfl rfl rfl rfl rfl (.t rfl) ?_
      refine s_cmp (.n rfl) rfl rfl (.t rfl) (.t rfl) .lss ?_
      refine s_nilq rfl ?_
      refine r_cond (.t rfl) (fun hq221 => ?_) (fun hq221 => ?_)
      · have ho := cnd1 ho hq221
        refine r_skipq rfl ?_
        refine r_seq ?_
        refine r_block ?_
        refine r_seq ?_
        refine r_region ?_
        refine s_assign (.n rfl) rfl rfl (.i (by decide) (by decide)) ?_
        refine s_nilq rfl ?_
        refine r_seq ?_
        refine r_block ?_
        obtain ⟨t228, ht228, ho⟩ := bnd ho
        refine r_loop (σ := (Int)) (τ := (Int)) (G := List AVal) (fun s g => ([(0, .val (rSlice rStableTrack) (p_0)), (1, .val (rSlice rStableCar) (p_1)), (5, .val (rPtr rStablePlan) (p_2)), (7, .raw ((gh g217 0))), (9, .raw v25), (10, .val (rInt .i64) (s216.2.1)), (11, .val (rInt .i64) (s))], [(v25, .row rBool (s216.2.2)), ((gh g217 0), .row rStableMove (s216.1))])) (fun b => (.exit 4, fun g => ([(0, .val (rSlice rStableTrack) (p_0)), (1, .val (rSlice rStableCar) (p_1)), (5, .val (rPtr rStablePlan) (p_2)), (7, .raw ((gh g217 0))), (9, .raw v25), (10, .val (rInt .i64) (s216.2.1)), (11, .val (rInt .i64) (b))], [(v25, .row rBool (s216.2.2)), ((gh g217 0), .row rStableMove (s216.1))]))) _ [] ht228 (fun fr h s => s.pick [0, 1] ⟨rfl, rfl, rfl, rfl, rfl, rfl, rfl, trivial⟩ rfl (by decide)) ?_ ?_ ?_
        · intro t
          exact (show (.exit 4 : AExit) ≠ .normal from fun e => by cases e)
        · clear ho
          intro s224 g225 r229 ho
          refine r_seq ?_
          refine r_seq ?_
          refine r_region ?_
          refine s_fa F36_1 fk_StablePlan_1 (by decide) (.n rfl) rfl rfl (.t rfl) ?_
          refine s_load U22 (.n rfl) rfl rfl (.t rfl) ?_
          refine s_move (.n rfl) rfl rfl (.t rfl) ?_
          obtain ⟨x226, hx226, ho⟩ := bnd ho
          refine s_idx S22 hx226 (.n rfl) rfl rfl (.t rfl) (.t rfl) ?_
          refine s_load U3 (.n rfl) rfl rfl (.t rfl) ?_
          refine s_move (.n rfl) rfl rfl (.t rfl) ?_
          refine s_cmp (.n rfl) rfl rfl (.t rfl) (.t rfl) .neq ?_
          refine s_nilq rfl ?_
          refine r_cond (.t rfl) (fun hq227 => ?_) (fun hq227 => ?_)
          · have ho := cnd1 ho hq227
            refine r_skipq rfl ?_
            refine r_block ?_
            refine r_region ?_
            refine s_move (.n rfl) rfl rfl (.t rfl) ?_
            refine s_ar (.n rfl) rfl rfl (.t rfl) (.i (by decide) (by decide)) .add ?_
            refine s_assign (.n rfl) rfl rfl (.t rfl) ?_
            cases ho
            exact s_nil (fun fr h s => And.intro rfl (Exists.intro [] (s.pick [0, 1] ⟨rfl, rfl, rfl, rfl, rfl, rfl, rfl, trivial⟩ rfl (by decide))))
          · have ho := cnd0 ho hq227
            cases ho
            exact r_exit (fun fr h s => And.intro rfl (Exists.intro [] (s.pick [0, 1] ⟨rfl, rfl, rfl, rfl, rfl, rfl, rfl, trivial⟩ rfl (by decide))))
        · intro g230
          show ∀ fr h, St _ [(0, .val (rSlice rStableTrack) (p_0)), (1, .val (rSlice rStableCar) (p_1)), (5, .val (rPtr rStablePlan) (p_2)), (7, .raw ((gh g217 0))), (9, .raw v25), (10, .val (rInt .i64) (s216.2.1)), (11, .val (rInt .i64) (t228))] [(v25, .row rBool (s216.2.2)), ((gh g217 0), .row rStableMove (s216.1))] fr h → _
          show SRun _ _ _ _ _ _
          refine r_seq ?_
          refine r_region ?_
          refine s_fa F36_0 fk_StablePlan_0 (by decide) (.n rfl) rfl rfl (.t rfl) ?_
          refine s_load U22 (.n rfl) rfl rfl (.t rfl) ?_
          refine s_move (.n rfl) rfl rfl (.t rfl) ?_
          obtain ⟨x231, hx231, ho⟩ := bnd ho
          refine s_idx S22 hx231 (.n rfl) rfl rfl (.t rfl) (.t rfl) ?_
          refine s_load U3 (.n rfl) rfl rfl (.t rfl) ?_
          refine s_assign (.n rfl) rfl rfl (.t rfl) ?_
          refine s_nilq rfl ?_
          refine r_seq ?_
          refine r_seq ?_
          refine r_region ?_
          refine s_move (.n rfl) rfl rfl (.t rfl) ?_
          refine s_move (.n rfl) rfl rfl (.t rfl) ?_
          obtain ⟨x232, hx232, ho⟩ := bnd ho
          refine s_idx S31 hx232 (.n rfl) rfl rfl (.t rfl) (.t rfl) ?_
          refine s_fa F48_1 fk_StableTrack_1 (by decide) (.n rfl) rfl rfl (.t rfl) ?_
          refine s_load U4 (.n rfl) rfl rfl (.t rfl) ?_
          refine s_nilq rfl ?_
          refine r_cond (.t rfl) (fun hq233 => ?_) (fun hq233 => ?_)
          · have ho := cnd1 ho hq233
            refine r_seq ?_
            refine r_region ?_
            refine s_assign (.n rfl) rfl rfl (.i (by decide) (by decide)) ?_
            refine s_nilq rfl ?_
            refine r_block ?_
            obtain ⟨t267, ht267, ho⟩ := bnd ho
            refine r_loop (σ := ((List StableMove) × Int)) (τ := ((List StableMove))) (G := List AVal) (fun s g => ([(0, .val (rSlice rStableTrack) (p_0)), (1, .val (rSlice rStableCar) (p_1)), (5, .val (rPtr rStablePlan) (p_2)), (7, .raw ((gh g 0))), (9, .raw v25), (10, .val (rInt .i64) (s216.2.1)), (11, .val (rInt .i64) (t228)), (12, .val (rInt .i64) (x231)), (13, .val (rInt .i64) (s.2))], [(v25, .row rBool (s216.2.2)), ((gh g 0), .row rStableMove (s.1))])) (fun b => (.exit 6, fun g => ([(0, .val (rSlice rStableTrack) (p_0)), (1, .val (rSlice rStableCar) (p_1)), (5, .val (rPtr rStablePlan) (p_2)), (7, .raw ((gh g 0))), (9, .raw v25), (10, .val (rInt .i64) (s216.2.1)), (11, .val (rInt .i64) (t228)), (12, .val (rInt .i64) (x231))], [(v25, .row rBool (s216.2.2)), ((gh g 0), .row rStableMove (b))]))) _ [(gh g217 0)] ht267 (fun fr h s => s.pick [0, 1] ⟨rfl, rfl, rfl, rfl, rfl, rfl, rfl, rfl, rfl, trivial⟩ rfl (by decide)) ?_ ?_ ?_
            · intro t
              exact (show (.exit 6 : AExit) ≠ .normal from fun e => by cases e)
            · clear ho
              intro s247 g248 r268 ho
              refine r_seq ?_
              refine r_seq ?_
              refine r_region ?_
              refine s_move (.n rfl) rfl rfl (.t rfl) ?_
              refine s_move (.n rfl) rfl rfl (.t rfl) ?_
              refine s_cmp (.n rfl) rfl rfl (.t rfl) (.t rfl) .lss ?_
              refine s_nilq rfl ?_
              refine r_cond (.t rfl) (fun hq252 => ?_) (fun hq252 => ?_)
              · have ho := cnd1 ho hq252
                refine r_skipq rfl ?_
                refine r_seq ?_
                refine r_block ?_
                refine r_seq ?_
                refine r_region ?_
                refine s_fa F36_0 fk_StablePlan_0 (by decide) (.n rfl) rfl rfl (.t rfl) ?_
                refine s_load U22 (.n rfl) rfl rfl (.t rfl) ?_
                refine s_move (.n rfl) rfl rfl (.t rfl) ?_
                obtain ⟨x256, hx256, ho⟩ := bnd ho
                refine s_idx S22 hx256 (.n rfl) rfl rfl (.t rfl) (.t rfl) ?_
                refine s_load U3 (.n rfl) rfl rfl (.t rfl) ?_
                refine s_move (.n rfl) rfl rfl (.t rfl) ?_
                refine s_cmp (.n rfl) rfl rfl (.t rfl) (.t rfl) .eql ?_
                refine s_move (.n rfl) rfl rfl (.t rfl) ?_
                rcases Bool.eq_false_or_eq_true ((x256 == x231)) with hb257 | hb257
                · have ho := cnd1 ho hb257
                  refine s_move (.g rfl rfl (gt1 hb257)) rfl rfl (.t rfl) ?_
                  refine s_move (.g rfl rfl (gt1 hb257)) rfl rfl (.t rfl) ?_
                  obtain ⟨x258, hx258, ho⟩ := bnd ho
                  refine s_idxo 0 S84 hx258 (.g rfl rfl (gt1 hb257)) rfl rfl (.t rfl) rfl (.t rfl) ?_
                  refine s_loado 0 (fun _ h => by cases h <;> rfl) U4 FOk.self (idx_inv hx258).2.2.2 (.g rfl rfl (gt1 hb257)) rfl rfl (.t rfl) rfl ?_
                  refine s_not (.g rfl rfl (gt1 hb257)) rfl rfl (.t rfl) ?_
                  refine s_pk1 hb257 (.n rfl) rfl rfl (.t rfl) (.t rfl) ?_
                  refine s_nilq rfl ?_
                  refine r_cond (.t rfl) (fun hq259 => ?_) (fun hq259 => ?_)
                  · have ho := cnd1 ho hq259
                    refine r_region ?_
                    refine s_move (.n rfl) rfl rfl (.t rfl) ?_
                    refine s_move (.n rfl) rfl rfl (.t rfl) ?_
                    refine s_move (.n rfl) rfl rfl (.t rfl) ?_
                    refine s_build (R := rStableMove) B71 (.n rfl) rfl rfl rfl (.p (.i (by decide) (by decide)) rfl (.p (.t rfl) rfl (.p (.t rfl) rfl (.n rfl)))) ?_
                    refine s_bs (R := rStableMove) S65 Y71 (.n rfl) rfl rfl (.c (.t rfl) .n) rfl (by decide) ?_
                    obtain ⟨x260, hx260, ho⟩ := bnd ho
                    refine s_app 1 S65 Y71 hx260 (.n rfl) rfl rfl rfl rfl rfl (.t rfl) rfl (.t rfl) rfl ?_
                    intro v261
                    refine s_assign (.n rfl) rfl rfl (.t rfl) ?_
                    refine s_nilq rfl ?_
                    refine r_region ?_
                    refine s_move (.n rfl) rfl rfl (.t rfl) ?_
                    refine s_ar (.n rfl) rfl rfl (.t rfl) (.i (by decide) (by decide)) .add ?_
                    refine s_assign (.n rfl) rfl rfl (.t rfl) ?_
                    cases ho
                    exact s_nil (fun fr h s => And.intro rfl (Exists.intro [v261] (s.pick [1, 0] ⟨rfl, rfl, rfl, rfl, rfl, rfl, rfl, rfl, rfl, trivial⟩ rfl (by decide))))
                  · have ho := cnd0 ho hq259
                    refine r_skipq rfl ?_
                    refine r_region ?_
                    refine s_move (.n rfl) rfl rfl (.t rfl) ?_
                    refine s_ar (.n rfl) rfl rfl (.t rfl) (.i (by decide) (by decide)) .add ?_
                    refine s_assign (.n rfl) rfl rfl (.t rfl) ?_
                    cases ho
                    exact s_nil (fun fr h s => And.intro rfl (Exists.intro [(gh g248 0)] (s.pick [0, 1] ⟨rfl, rfl, rfl, rfl, rfl, rfl, rfl, rfl, rfl, trivial⟩ rfl (by decide))))
                · have ho := cnd0 ho hb257
                  refine s_skip (.g rfl rfl (gt0 hb257)) rfl ?_
                  refine s_skip (.g rfl rfl (gt0 hb257)) rfl ?_
                  refine s_skip (.g rfl rfl (gt0 hb257)) rfl ?_
                  refine s_skip (.g rfl rfl (gt0 hb257)) rfl ?_
                  refine s_skip (.g rfl rfl (gt0 hb257)) rfl ?_
                  refine s_pk0 hb257 (.n rfl) rfl rfl (.t rfl) .b ?_
                  refine s_nilq rfl ?_
                  refine r_cond (.t rfl) (fun hq => by cases hq) (fun _ => ?_)
                  refine r_skipq rfl ?_
                  refine r_region ?_
                  refine s_move (.n rfl) rfl rfl (.t rfl) ?_
                  refine s_ar (.n rfl) rfl rfl (.t rfl) (.i (by decide) (by decide)) .add ?_
                  refine s_assign (.n rfl) rfl rfl (.t rfl) ?_
                  cases ho
                  exact s_nil (fun fr h s => And.intro rfl (Exists.intro [(gh g248 0)] (s.pick [0, 1] ⟨rfl, rfl, rfl, rfl, rfl, rfl, rfl, rfl, rfl, trivial⟩ rfl (by decide))))
              · have ho := cnd0 ho hq252
                cases ho
                exact r_exit (fun fr h s => And.intro rfl (Exists.intro [(gh g248 0)] (s.pick [0, 1] ⟨rfl, rfl, rfl, rfl, rfl, rfl, rfl, rfl, trivial⟩ rfl (by decide))))
            · intro g269
              show ∀ fr h, St _ [(0, .val (rSlice rStableTrack) (p_0)), (1, .val (rSlice rStableCar) (p_1)), (5, .val (rPtr rStablePlan) (p_2)), (7, .raw ((gh g269 0))), (9, .raw v25), (10, .val (rInt .i64) (s216.2.1)), (11, .val (rInt .i64) (t228)), (12, .val (rInt .i64) (x231))] [(v25, .row rBool (s216.2.2)), ((gh g269 0), .row rStableMove (t267))] fr h → _
              show SRun _ _ _ _ _ _
              refine r_seq ?_
              refine r_region ?_
              refine s_move (.n rfl) rfl rfl (.t rfl) ?_
              refine s_move (.n rfl) rfl rfl (.t rfl) ?_
              refine s_move (.n rfl) rfl rfl (.t rfl) ?_
              refine s_build (R := rStableMove) B71 (.n rfl) rfl rfl rfl (.p (.i (by decide) (by decide)) rfl (.p (.t rfl) rfl (.p (.t rfl) rfl (.n rfl)))) ?_
              refine s_bs (R := rStableMove) S65 Y71 (.n rfl) rfl rfl (.c (.t rfl) .n) rfl (by decide) ?_
              obtain ⟨x271, hx271, ho⟩ := bnd ho
              refine s_app 1 S65 Y71 hx271 (.n rfl) rfl rfl rfl rfl rfl (.t rfl) rfl (.t rfl) rfl ?_
              intro v272
              refine s_assign (.n rfl) rfl rfl (.t rfl) ?_
              refine s_nilq rfl ?_
              refine r_region ?_
              refine s_move (.n rfl) rfl rfl (.t rfl) ?_
              refine s_move (.n rfl) rfl rfl (.t rfl) ?_
              obtain ⟨x273, hx273, ho⟩ := bnd ho
              refine s_idxo 1 S84 hx273 (.n rfl) rfl rfl (.t rfl) rfl (.t rfl) ?_
              refine s_storeo 1 U4 FOk.self (idx_inv hx273).2.2.2 (.n rfl) rfl rfl (.t rfl) .b rfl rfl ?_
              refine s_nilq rfl ?_
              refine r_region ?_
              refine s_move (.n rfl) rfl rfl (.t rfl) ?_
              refine s_ar (.n rfl) rfl rfl (.t rfl) (.i (by decide) (by decide)) .add ?_
              refine s_assign (.n rfl) rfl rfl (.t rfl) ?_
              cases ho
              exact s_nil (fun fr h s => And.intro rfl (Exists.intro [v272] (s.pick [1, 0] ⟨rfl, rfl, rfl, rfl, rfl, rfl, trivial⟩ rfl (by decide))))
          · have ho := cnd0 ho hq233
            refine r_seq ?_
            refine r_region ?_
            refine s_move (.n rfl) rfl rfl (.t rfl) ?_
            refine s_len S32 (.n rfl) rfl rfl rfl rfl rfl (.t rfl) ?_
            refine s_ar (.n rfl) rfl rfl (.t rfl) (.i (by decide) (by decide)) .sub ?_
            refine s_assign (.n rfl) rfl rfl (.t rfl) ?_
            refine s_nilq rfl ?_
            refine r_block ?_
            obtain ⟨t308, ht308, ho⟩ := bnd ho
            refine r_loop (σ := ((List StableMove) × Int)) (τ := ((List StableMove))) (G := List AVal) (fun s g => ([(0, .val (rSlice rStableTrack) (p_0)), (1, .val (rSlice rStableCar) (p_1)), (5, .val (rPtr rStablePlan) (p_2)), (7, .raw ((gh g 0))), (9, .raw v25), (10, .val (rInt .i64) (s216.2.1)), (11, .val (rInt .i64) (t228)), (12, .val (rInt .i64) (x231)), (14, .val (rInt .i64) (s.2))], [(v25, .row rBool (s216.2.2)), ((gh g 0), .row rStableMove (s.1))])) (fun b => (.exit 8, fun g => ([(0, .val (rSlice rStableTrack) (p_0)), (1, .val (rSlice rStableCar) (p_1)), (5, .val (rPtr rStablePlan) (p_2)), (7, .raw ((gh g 0))), (9, .raw v25), (10, .val (rInt .i64) (s216.2.1)), (11, .val (rInt .i64) (t228)), (12, .val (rInt .i64) (x231))], [(v25, .row rBool (s216.2.2)), ((gh g 0), .row rStableMove (b))]))) _ [(gh g217 0)] ht308 (fun fr h s => s.pick [0, 1] ⟨rfl, rfl, rfl, rfl, rfl, rfl, rfl, rfl, rfl, trivial⟩ rfl (by decide)) ?_ ?_ ?_
            · intro t
              exact (show (.exit 8 : AExit) ≠ .normal from fun e => by cases e)
            · clear ho
              intro s288 g289 r309 ho
              refine r_seq ?_
              refine r_seq ?_
              refine r_region ?_
              refine s_move (.n rfl) rfl rfl (.t rfl) ?_
              refine s_move (.n rfl) rfl rfl (.t rfl) ?_
              refine s_cmp (.n rfl) rfl rfl (.t rfl) (.t rfl) .gtr ?_
              refine s_nilq rfl ?_
              refine r_cond (.t rfl) (fun hq293 => ?_) (fun hq293 => ?_)
              · have ho := cnd1 ho hq293
                refine r_skipq rfl ?_
                refine r_seq ?_
                refine r_block ?_
                refine r_seq ?_
                refine r_region ?_
                refine s_fa F36_0 fk_StablePlan_0 (by decide) (.n rfl) rfl rfl (.t rfl) ?_
                refine s_load U22 (.n rfl) rfl rfl (.t rfl) ?_
                refine s_move (.n rfl) rfl rfl (.t rfl) ?_
                obtain ⟨x297, hx297, ho⟩ := bnd ho
                refine s_idx S22 hx297 (.n rfl) rfl rfl (.t rfl) (.t rfl) ?_
                refine s_load U3 (.n rfl) rfl rfl (.t rfl) ?_
                refine s_move (.n rfl) rfl rfl (.t rfl) ?_
                refine s_cmp (.n rfl) rfl rfl (.t rfl) (.t rfl) .eql ?_
                refine s_move (.n rfl) rfl rfl (.t rfl) ?_
                rcases Bool.eq_false_or_eq_true ((x297 == x231)) with hb298 | hb298
                · have ho := cnd1 ho hb298
                  refine s_move (.g rfl rfl (gt1 hb298)) rfl rfl (.t rfl) ?_
                  refine s_move (.g rfl rfl (gt1 hb298)) rfl rfl (.t rfl) ?_
                  obtain ⟨x299, hx299, ho⟩ := bnd ho
                  refine s_idxo 0 S84 hx299 (.g rfl rfl (gt1 hb298)) rfl rfl (.t rfl) rfl (.t rfl) ?_
                  refine s_loado 0 (fun _ h => by cases h <;> rfl) U4 FOk.self (idx_inv hx299).2.2.2 (.g rfl rfl (gt1 hb298)) rfl rfl (.t rfl) rfl ?_
                  refine s_not (.g rfl rfl (gt1 hb298)) rfl rfl (.t rfl) ?_
                  refine s_pk1 hb298 (.n rfl) rfl rfl (.t rfl) (.t rfl) ?_
                  refine s_nilq rfl ?_
                  refine r_cond (.t rfl) (fun hq300 => ?_) (fun hq300 => ?_)
                  · have ho := cnd1 ho hq300
                    refine r_region ?_
                    refine s_move (.n rfl) rfl rfl (.t rfl) ?_
                    refine s_move (.n rfl) rfl rfl (.t rfl) ?_
                    refine s_move (.n rfl) rfl rfl (.t rfl) ?_
                    refine s_build (R := rStableMove) B71 (.n rfl) rfl rfl rfl (.p (.i (by decide) (by decide)) rfl (.p (.t rfl) rfl (.p (.t rfl) rfl (.n rfl)))) ?_
                    refine s_bs (R := rStableMove) S65 Y71 (.n rfl) rfl rfl (.c (.t rfl) .n) rfl (by decide) ?_
                    obtain ⟨x301, hx301, ho⟩ := bnd ho
                    refine s_app 1 S65 Y71 hx301 (.n rfl) rfl rfl rfl rfl rfl (.t rfl) rfl (.t rfl) rfl ?_
                    intro v302
                    refine s_assign (.n rfl) rfl rfl (.t rfl) ?_
                    refine s_nilq rfl ?_
                    refine r_region ?_
                    refine s_move (.n rfl) rfl rfl (.t rfl) ?_
                    refine s_ar (.n rfl) rfl rfl (.t rfl) (.i (by decide) (by decide)) .sub ?_
                    refine s_assign (.n rfl) rfl rfl (.t rfl) ?_
                    cases ho
                    exact s_nil (fun fr h s => And.intro rfl (Exists.intro [v302] (s.pick [1, 0] ⟨rfl, rfl, rfl, rfl, rfl, rfl, rfl, rfl, rfl, trivial⟩ rfl (by decide))))
                  · have ho := cnd0 ho hq300
                    refine r_skipq rfl ?_
                    refine r_region ?_
                    refine s_move (.n rfl) rfl rfl (.t rfl) ?_
                    refine s_ar (.n rfl) rfl rfl (.t rfl) (.i (by decide) (by decide)) .sub ?_
                    refine s_assign (.n rfl) rfl rfl (.t rfl) ?_
                    cases ho
                    exact s_nil (fun fr h s => And.intro rfl (Exists.intro [(gh g289 0)] (s.pick [0, 1] ⟨rfl, rfl, rfl, rfl, rfl, rfl, rfl, rfl, rfl, trivial⟩ rfl (by decide))))
                · have ho := cnd0 ho hb298
                  refine s_skip (.g rfl rfl (gt0 hb298)) rfl ?_
                  refine s_skip (.g rfl rfl (gt0 hb298)) rfl ?_
                  refine s_skip (.g rfl rfl (gt0 hb298)) rfl ?_
                  refine s_skip (.g rfl rfl (gt0 hb298)) rfl ?_
                  refine s_skip (.g rfl rfl (gt0 hb298)) rfl ?_
                  refine s_pk0 hb298 (.n rfl) rfl rfl (.t rfl) .b ?_
                  refine s_nilq rfl ?_
                  refine r_cond (.t rfl) (fun hq => by cases hq) (fun _ => ?_)
                  refine r_skipq rfl ?_
                  refine r_region ?_
                  refine s_move (.n rfl) rfl rfl (.t rfl) ?_
                  refine s_ar (.n rfl) rfl rfl (.t rfl) (.i (by decide) (by decide)) .sub ?_
                  refine s_assign (.n rfl) rfl rfl (.t rfl) ?_
                  cases ho
                  exact s_nil (fun fr h s => And.intro rfl (Exists.intro [(gh g289 0)] (s.pick [0, 1] ⟨rfl, rfl, rfl, rfl, rfl, rfl, rfl, rfl, rfl, trivial⟩ rfl (by decide))))
              · have ho := cnd0 ho hq293
                cases ho
                exact r_exit (fun fr h s => And.intro rfl (Exists.intro [(gh g289 0)] (s.pick [0, 1] ⟨rfl, rfl, rfl, rfl, rfl, rfl, rfl, rfl, trivial⟩ rfl (by decide))))
            · intro g310
              show ∀ fr h, St _ [(0, .val (rSlice rStableTrack) (p_0)), (1, .val (rSlice rStableCar) (p_1)), (5, .val (rPtr rStablePlan) (p_2)), (7, .raw ((gh g310 0))), (9, .raw v25), (10, .val (rInt .i64) (s216.2.1)), (11, .val (rInt .i64) (t228)), (12, .val (rInt .i64) (x231))] [(v25, .row rBool (s216.2.2)), ((gh g310 0), .row rStableMove (t308))] fr h → _
              show SRun _ _ _ _ _ _
              refine r_seq ?_
              refine r_region ?_
              refine s_move (.n rfl) rfl rfl (.t rfl) ?_
              refine s_move (.n rfl) rfl rfl (.t rfl) ?_
              refine s_move (.n rfl) rfl rfl (.t rfl) ?_
              refine s_build (R := rStableMove) B71 (.n rfl) rfl rfl rfl (.p (.i (by decide) (by decide)) rfl (.p (.t rfl) rfl (.p (.t rfl) rfl (.n rfl)))) ?_
              refine s_bs (R := rStableMove) S65 Y71 (.n rfl) rfl rfl (.c (.t rfl) .n) rfl (by decide) ?_
              obtain ⟨x312, hx312, ho⟩ := bnd ho
              refine s_app 1 S65 Y71 hx312 (.n rfl) rfl rfl rfl rfl rfl (.t rfl) rfl (.t rfl) rfl ?_
              intro v313
              refine s_assign (.n rfl) rfl rfl (.t rfl) ?_
              refine s_nilq rfl ?_
              refine r_region ?_
              refine s_move (.n rfl) rfl rfl (.t rfl) ?_
              refine s_move (.n rfl) rfl rfl (.t rfl) ?_
              obtain ⟨x314, hx314, ho⟩ := bnd ho
              refine s_idxo 1 S84 hx314 (.n rfl) rfl rfl (.t rfl) rfl (.t rfl) ?_
              refine s_storeo 1 U4 FOk.self (idx_inv hx314).2.2.2 (.n rfl) rfl rfl (.t rfl) .b rfl rfl ?_
              refine s_nilq rfl ?_
              refine r_region ?_
              refine s_move (.n rfl) rfl rfl (.t rfl) ?_
              refine s_ar (.n rfl) rfl rfl (.t rfl) (.i (by decide) (by decide)) .add ?_
              refine s_assign (.n rfl) rfl rfl (.t rfl) ?_
              cases ho
              exact s_nil (fun fr h s => And.intro rfl (Exists.intro [v313] (s.pick [1, 0] ⟨rfl, rfl, rfl, rfl, rfl, rfl, trivial⟩ rfl (by decide))))
      · have ho := cnd0 ho hq221
        cases ho
        exact r_exit (fun fr h s => And.intro rfl (Exists.intro [(gh g217 0)] (s.pick [1] ⟨rfl, trivial⟩ rfl (by decide))))
    · intro g319
      show ∀ fr h, St _ [(7, .raw ((gh g319 0)))] [((gh g319 0), .row rStableMove (t317.1))] fr h → _
      show SRun _ _ _ _ _ _
      refine r_seq ?_
      refine r_region ?_
      refine s_move (.n rfl) rfl rfl (.t rfl) ?_
      refine s_assign (.n rfl) rfl rfl (.t rfl) ?_
      refine s_nilq rfl ?_
      cases ho
      exact r_ret (ret_of (.inr rfl) (.r 0 rfl rfl .n) (by decide))
theorem g_law09_DepotMoves_ok {p_0 : (List StableTrack)} {p_1 : (List StableCar)} {p_2 : (List StableLeave)} {p_3 : StablePlan} {out : (Bool)} (ho : g_law09_DepotMoves p_0 p_1 p_2 p_3 = some out) : Fun ktab 10 [.val (rSlice rStableTrack) p_0, .val (rSlice rStableCar) p_1, .val (rSlice rStableLeave) p_2, .val rStablePlan p_3] [.val rBool (out)] := by
  refine fun_of (F := Try.f10) (by rfl) (by rfl) (by rfl) (fun C hC => ?_)
  delta g_law09_DepotMoves at ho
  refine r_seq ?_
  refine r_region ?_
  refine s_box (.n rfl) rfl rfl (.t rfl) ?_
  refine s_assign (.n rfl) rfl rfl .b ?_
  refine s_nilq rfl ?_
  refine r_seq ?_
  refine r_seq ?_
  obtain ⟨c4, hc4, ho⟩ := bnd ho
  refine r_cut (τ := (Bool)) (G := Unit) (fun t => (.normal, fun _ => ([(0, .val (rSlice rStableTrack) (p_0)), (1, .val (rSlice rStableCar) (p_1)), (2, .val (rSlice rStableLeave) (p_2)), (7, .val (rPtr rStablePlan) (p_3)), (33, .val rBool (t))], []))) (t := c4) ?_ ?_
  · have ho := hc4
    clear hc4
    refine r_region ?_
    refine s_move (.n rfl) rfl rfl (.t rfl) ?_
    refine s_move (.n rfl) rfl rfl (.t rfl) ?_
    refine s_move (.n rfl) rfl rfl (.t rfl) ?_
    obtain ⟨y5, hy5, ho⟩ := bnd ho
    refine s_calll (g_law09_few_ok hy5) (.v flat_bool .n) rfl (.n rfl) rfl rfl rfl .f (.c (.o (.t rfl)) (.c (.o (.t rfl)) (.c (.o (.t rfl)) (.c (.o (.i (by decide) (by decide))) .n)))) ?_
    show SOps _ _ _ _ _ _ _ _
    refine s_not (.n rfl) rfl rfl (.t rfl) ?_
    refine s_move (.n rfl) rfl rfl (.t rfl) ?_
    rcases Bool.eq_false_or_eq_true ((!y5)) with hb6 | hb6
    · have ho := cnd1 ho hb6
      refine s_skip (.g rfl rfl (gf1 hb6)) rfl ?_
      refine s_skip (.g rfl rfl (gf1 hb6)) rfl ?_
      refine s_skip (.g rfl rfl (gf1 hb6)) rfl ?_
      refine s_skip (.g rfl rfl (gf1 hb6)) rfl ?_
      refine s_pk1 hb6 (.n rfl) rfl rfl (.t rfl) .b ?_
      refine s_move (.n rfl) rfl rfl (.t rfl) ?_
      refine s_skip (.g rfl rfl rfl) rfl ?_
      refine s_skip (.g rfl rfl rfl) rfl ?_
      refine s_skip (.g rfl rfl rfl) rfl ?_
      refine s_skip (.g rfl rfl rfl) rfl ?_
      refine s_pick1 (.n rfl) rfl rfl (.t rfl) .b ?_
      cases ho
      exact s_nil (fun fr h s => And.intro rfl (Exists.intro () (s.pick [] ⟨rfl, rfl, rfl, rfl, rfl, trivial⟩ rfl (by decide))))
    · have ho := cnd0 ho hb6
      refine s_fa F36_0 fk_StablePlan_0 (by decide) (.g rfl rfl (gf0 hb6)) rfl rfl (.t rfl) ?_
      refine s_load U22 (.g rfl rfl (gf0 hb6)) rfl rfl (.t rfl) ?_
      refine s_len S22 (.g rfl rfl (gf0 hb6)) rfl rfl rfl rfl rfl (.t rfl) ?_
      refine s_cmp (.g rfl rfl (gf0 hb6)) rfl rfl (.t rfl) (.i (by decide) (by decide)) .gtr ?_
      refine s_pk0 hb6 (.n rfl) rfl rfl (.t rfl) (.t rfl) ?_
      refine s_move (.n rfl) rfl rfl (.t rfl) ?_
      rcases Bool.eq_false_or_eq_true ((decide ((lenI p_3.1) > 12))) with hb7 | hb7
      · have ho := cnd1 ho hb7
        refine s_skip (.g rfl rfl (gf1 hb7)) rfl ?_
        refine s_skip (.g rfl rfl (gf1 hb7)) rfl ?_
        refine s_skip (.g rfl rfl (gf1 hb7)) rfl ?_
        refine s_skip (.g rfl rfl (gf1 hb7)) rfl ?_
        refine s_pk1 hb7 (.n rfl) rfl rfl (.t rfl) .b ?_
        cases ho
        exact s_nil (fun fr h s => And.intro rfl (Exists.intro () (s.pick [] ⟨rfl, rfl, rfl, rfl, rfl, trivial⟩ rfl (by decide))))
      · have ho := cnd0 ho hb7
        refine s_fa F36_1 fk_StablePlan_1 (by decide) (.g rfl rfl (gf0 hb7)) rfl rfl (.t rfl) ?_
        refine s_load U22 (.g rfl rfl (gf0 hb7)) rfl rfl (.t rfl) ?_
        refine s_len S22 (.g rfl rfl (gf0 hb7)) rfl rfl rfl rfl rfl (.t rfl) ?_
        refine s_cmp (.g rfl rfl (gf0 hb7)) rfl rfl (.t rfl) (.i (by decide) (by decide)) .gtr ?_
        refine s_pk0 hb7 (.n rfl) rfl rfl (.t rfl) (.t rfl) ?_
        cases ho
        exact s_nil (fun fr h s => And.intro rfl (Exists.intro () (s.pick [] ⟨rfl, rfl, rfl, rfl, rfl, trivial⟩ rfl (by decide))))
  · intro _
    show SRun _ _ _ _ _ _
    refine r_cond (.t rfl) (fun hq8 => ?_) (fun hq8 => ?_)
    · have ho := cnd1 ho hq8
      refine r_seq ?_
      refine r_region ?_
      refine s_const (v := .bool true) (e := .val rBool true) rfl known_te (.n rfl) rfl rfl rfl .f rfl ?_
      refine s_assign (.n rfl) rfl rfl (.t rfl) ?_
      refine s_nilq rfl ?_
      cases ho
      exact r_ret (ret_of (.inr rfl) (.v rfl .n) (by decide))
    · have ho := cnd0 ho hq8
      refine r_skipq rfl ?_
      refine r_seq ?_
      refine r_region ?_
      refine s_move (.n rfl) rfl rfl (.t rfl) ?_
      refine s_move (.n rfl) rfl rfl (.t rfl) ?_
      refine s_move (.n rfl) rfl rfl (.t rfl) ?_
      refine s_load U36 (.n rfl) rfl rfl (.t rfl) ?_
      obtain ⟨y9, hy9, ho⟩ := bnd ho
      refine s_calll (g_depot_Moves_ok hy9) (.v flat_int (.v flat_bool .n)) rfl (.n rfl) rfl rfl rfl .f (.c (.o (.t rfl)) (.c (.o (.t rfl)) (.c (.o (.t rfl)) (.c (.o (.t rfl)) .n)))) ?_
      show SOps _ _ _ _ _ _ _ _
      refine s_move (.n rfl) rfl rfl (.t rfl) ?_
      refine s_ext rfl (.n rfl) rfl rfl (.t rfl) ?_
      refine s_ext rfl (.n rfl) rfl rfl (.t rfl) ?_
      refine s_assign (.n rfl) rfl rfl (.t rfl) ?_
      refine s_assign (.n rfl) rfl rfl (.t rfl) ?_
      refine s_nilq rfl ?_
      refine r_seq ?_
      refine r_region ?_
      refine s_move (.n rfl) rfl rfl (.t rfl) ?_
      refine s_move (.n rfl) rfl rfl (.t rfl) ?_
      refine s_move (.n rfl) rfl rfl (.t rfl) ?_
      refine s_load U36 (.n rfl) rfl rfl (.t rfl) ?_
      obtain ⟨y10, hy10, ho⟩ := bnd ho
      refine s_calll (g_depot_Play_ok hy10) (.r (flat_pair flat_int (flat_pair flat_int (flat_pair flat_int flat_unit))) (.v flat_int .n)) rfl (.n rfl) rfl rfl rfl .f (.c (.o (.t rfl)) (.c (.o (.t rfl)) (.c (.o (.t rfl)) (.c (.o (.t rfl)) .n)))) ?_
      intro v11
      show SOps _ _ _ _ _ _ _ _
      refine s_move (.n rfl) rfl rfl (.t rfl) ?_
      refine s_ext rfl (.n rfl) rfl rfl (.t rfl) ?_
      refine s_ext rfl (.n rfl) rfl rfl (.t rfl) ?_
      refine s_assign (.n rfl) rfl rfl (.t rfl) ?_
      refine s_assign (.n rfl) rfl rfl (.t rfl) ?_
      refine s_nilq rfl ?_
      refine r_seq ?_
      refine r_seq ?_
      refine r_region ?_
      refine s_move (.n rfl) rfl rfl (.t rfl) ?_
      refine s_move (.n rfl) rfl rfl (.t rfl) ?_
      refine s_move (.n rfl) rfl rfl (.t rfl) ?_
      obtain ⟨y13, hy13, ho⟩ := bnd ho
      refine s_calll (g_ref09_Night_ok hy13) (.v flat_bool .n) rfl (.n rfl) rfl rfl rfl .f (.c (.o (.t rfl)) (.c (.o (.t rfl)) (.c (.o (.t rfl)) .n))) ?_
      show SOps _ _ _ _ _ _ _ _
      refine s_not (.n rfl) rfl rfl (.t rfl) ?_
      refine s_nilq rfl ?_
      refine r_cond (.t rfl) (fun hq14 => ?_) (fun hq14 => ?_)
      · have ho := cnd1 ho hq14
        refine r_seq ?_
        obtain ⟨c19, hc19, ho⟩ := bnd ho
        refine r_cut (τ := (Bool)) (G := Unit) (fun t => (.normal, fun _ => ([(8, .val rBool (t))], [(v11, .row rStableMove (y10.1))]))) (t := c19) ?_ ?_
        · have ho := hc19
          clear hc19
          refine r_region ?_
          refine s_move (.n rfl) rfl rfl (.t rfl) ?_
          refine s_not (.n rfl) rfl rfl (.t rfl) ?_
          refine s_move (.n rfl) rfl rfl (.t rfl) ?_
          rcases Bool.eq_false_or_eq_true ((!y9.2)) with hb20 | hb20
          · have ho := cnd1 ho hb20
            refine s_move (.g rfl rfl (gt1 hb20)) rfl rfl (.t rfl) ?_
            refine s_cmp (.g rfl rfl (gt1 hb20)) rfl rfl (.t rfl) (.i (by decide) (by decide)) .eql ?_
            refine s_pk1 hb20 (.n rfl) rfl rfl (.t rfl) (.t rfl) ?_
            refine s_move (.n rfl) rfl rfl (.t rfl) ?_
            rcases Bool.eq_false_or_eq_true ((y9.1 == 0)) with hb21 | hb21
            · have ho := cnd1 ho hb21
              refine s_move (.g rfl rfl (gt1 hb21)) rfl rfl (.t rfl) ?_
              refine s_cmp (.g rfl rfl (gt1 hb21)) rfl rfl (.t rfl) (.i (by decide) (by decide)) .eql ?_
              refine s_pk1 hb21 (.n rfl) rfl rfl (.t rfl) (.t rfl) ?_
              refine s_move (.n rfl) rfl rfl (.t rfl) ?_
              rcases Bool.eq_false_or_eq_true ((y10.2 == 2)) with hb22 | hb22
              · have ho := cnd1 ho hb22
                refine s_move (.g rfl rfl (gt1 hb22)) rfl rfl (.t rfl) ?_
                refine s_leno 0 S65 (.g rfl rfl (gt1 hb22)) rfl rfl rfl rfl rfl (.t rfl) rfl ?_
                refine s_cmp (.g rfl rfl (gt1 hb22)) rfl rfl (.t rfl) (.i (by decide) (by decide)) .eql ?_
                refine s_pk1 hb22 (.n rfl) rfl rfl (.t rfl) (.t rfl) ?_
                refine s_move (.n rfl) rfl rfl (.t rfl) ?_
                rcases Bool.eq_false_or_eq_true (((lenI y10.1) == 0)) with hb23 | hb23
                · have ho := cnd1 ho hb23
                  refine s_const (v := .bool true) (e := .val rBool true) rfl known_te (.g rfl rfl (gt1 hb23)) rfl rfl rfl .f rfl ?_
                  refine s_pk1 hb23 (.n rfl) rfl rfl (.t rfl) (.t rfl) ?_
                  refine s_assign (.n rfl) rfl rfl (.t rfl) ?_
                  cases ho
                  exact s_nil (fun fr h s => And.intro rfl (Exists.intro () (s.pick [0] ⟨rfl, trivial⟩ rfl (by decide))))
                · have ho := cnd0 ho hb23
                  refine s_skip (.g rfl rfl (gt0 hb23)) rfl ?_
                  refine s_pk0 hb23 (.n rfl) rfl rfl (.t rfl) .b ?_
                  refine s_assign (.n rfl) rfl rfl (.t rfl) ?_
                  cases ho
                  exact s_nil (fun fr h s => And.intro rfl (Exists.intro () (s.pick [0] ⟨rfl, trivial⟩ rfl (by decide))))
              · have ho := cnd0 ho hb22
                refine s_skip (.g rfl rfl (gt0 hb22)) rfl ?_
                refine s_skip (.g rfl rfl (gt0 hb22)) rfl ?_
                refine s_skip (.g rfl rfl (gt0 hb22)) rfl ?_
                refine s_pk0 hb22 (.n rfl) rfl rfl (.t rfl) .b ?_
                refine s_move (.n rfl) rfl rfl (.t rfl) ?_
                refine s_skip (.g rfl rfl rfl) rfl ?_
                refine s_pick0 (.n rfl) rfl rfl (.t rfl) .b ?_
                refine s_assign (.n rfl) rfl rfl (.t rfl) ?_
                cases ho
                exact s_nil (fun fr h s => And.intro rfl (Exists.intro () (s.pick [0] ⟨rfl, trivial⟩ rfl (by decide))))
            · have ho := cnd0 ho hb21
              refine s_skip (.g rfl rfl (gt0 hb21)) rfl ?_
              refine s_skip (.g rfl rfl (gt0 hb21)) rfl ?_
              refine s_pk0 hb21 (.n rfl) rfl rfl (.t rfl) .b ?_
              refine s_move (.n rfl) rfl rfl (.t rfl) ?_
              refine s_skip (.g rfl rfl rfl) rfl ?_
              refine s_skip (.g rfl rfl rfl) rfl ?_
              refine s_skip (.g rfl rfl rfl) rfl ?_
              refine s_pick0 (.n rfl) rfl rfl (.t rfl) .b ?_
              refine s_move (.n rfl) rfl rfl (.t rfl) ?_
              refine s_skip (.g rfl rfl rfl) rfl ?_
              refine s_pick0 (.n rfl) rfl rfl (.t rfl) .b ?_
              refine s_assign (.n rfl) rfl rfl (.t rfl) ?_
              cases ho
              exact s_nil (fun fr h s => And.intro rfl (Exists.intro () (s.pick [0] ⟨rfl, trivial⟩ rfl (by decide))))
          · have ho := cnd0 ho hb20
            refine s_skip (.g rfl rfl (gt0 hb20)) rfl ?_
            refine s_skip (.g rfl rfl (gt0 hb20)) rfl ?_
            refine s_pk0 hb20 (.n rfl) rfl rfl (.t rfl) .b ?_
            refine s_move (.n rfl) rfl rfl (.t rfl) ?_
            refine s_skip (.g rfl rfl rfl) rfl ?_
            refine s_skip (.g rfl rfl rfl) rfl ?_
            refine s_pick0 (.n rfl) rfl rfl (.t rfl) .b ?_
            refine s_move (.n rfl) rfl rfl (.t rfl) ?_
            refine s_skip (.g rfl rfl rfl) rfl ?_
            refine s_skip (.g rfl rfl rfl) rfl ?_
            refine s_skip (.g rfl rfl rfl) rfl ?_
            refine s_pick0 (.n rfl) rfl rfl (.t rfl) .b ?_
            refine s_move (.n rfl) rfl rfl (.t rfl) ?_
            refine s_skip (.g rfl rfl rfl) rfl ?_
            refine s_pick0 (.n rfl) rfl rfl (.t rfl) .b ?_
            refine s_assign (.n rfl) rfl rfl (.t rfl) ?_
            cases ho
            exact s_nil (fun fr h s => And.intro rfl (Exists.intro () (s.pick [0] ⟨rfl, trivial⟩ rfl (by decide))))
        · intro _
          show SRun _ _ _ _ _ _
          cases ho
          exact r_ret (ret_of (.inr rfl) (.v rfl .n) (by decide))
      · have ho := cnd0 ho hq14
        refine r_skipq rfl ?_
        refine r_seq ?_
        refine r_region ?_
        refine s_move (.n rfl) rfl rfl (.t rfl) ?_
        refine s_move (.n rfl) rfl rfl (.t rfl) ?_
        refine s_move (.n rfl) rfl rfl (.t rfl) ?_
        refine s_load U36 (.n rfl) rfl rfl (.t rfl) ?_
        obtain ⟨y24, hy24, ho⟩ := bnd ho
        refine s_calll (g_ref09_Moves_ok hy24) (.v flat_int (.v flat_bool .n)) rfl (.n rfl) rfl rfl rfl .f (.c (.o (.t rfl)) (.c (.o (.t rfl)) (.c (.o (.t rfl)) (.c (.o (.t rfl)) .n)))) ?_
        show SOps _ _ _ _ _ _ _ _
        refine s_move (.n rfl) rfl rfl (.t rfl) ?_
        refine s_ext rfl (.n rfl) rfl rfl (.t rfl) ?_
        refine s_ext rfl (.n rfl) rfl rfl (.t rfl) ?_
        refine s_assign (.n rfl) rfl rfl (.t rfl) ?_
        refine s_assign (.n rfl) rfl rfl (.t rfl) ?_
        refine s_nilq rfl ?_
        refine r_seq ?_
        refine r_seq ?_
        obtain ⟨c26, hc26, ho⟩ := bnd ho
        refine r_cut (τ := (Bool)) (G := Unit) (fun t => (.normal, fun _ => ([(0, .val (rSlice rStableTrack) (p_0)), (1, .val (rSlice rStableCar) (p_1)), (7, .val (rPtr rStablePlan) (p_3)), (11, .raw v11), (12, .val (rInt .i64) (y10.2)), (14, .val rBool (y24.2)), (89, .val rBool (t))], [(v11, .row rStableMove (y10.1))]))) (t := c26) ?_ ?_
        · have ho := hc26
          clear hc26
          refine r_region ?_
          refine s_move (.n rfl) rfl rfl (.t rfl) ?_
          refine s_move (.n rfl) rfl rfl (.t rfl) ?_
          refine s_bne K4 (.n rfl) rfl rfl (.t rfl) (.t rfl) ?_
          refine s_move (.n rfl) rfl rfl (.t rfl) ?_
          rcases Bool.eq_false_or_eq_true ((y9.2 != y24.2)) with hb27 | hb27
          · have ho := cnd1 ho hb27
            refine s_skip (.g rfl rfl (gf1 hb27)) rfl ?_
            refine s_skip (.g rfl rfl (gf1 hb27)) rfl ?_
            refine s_skip (.g rfl rfl (gf1 hb27)) rfl ?_
            refine s_pk1 hb27 (.n rfl) rfl rfl (.t rfl) .b ?_
            cases ho
            exact s_nil (fun fr h s => And.intro rfl (Exists.intro () (s.pick [0] ⟨rfl, rfl, rfl, rfl, rfl, rfl, rfl, trivial⟩ rfl (by decide))))
          · have ho := cnd0 ho hb27
            refine s_move (.g rfl rfl (gf0 hb27)) rfl rfl (.t rfl) ?_
            refine s_move (.g rfl rfl (gf0 hb27)) rfl rfl (.t rfl) ?_
            refine s_cmp (.g rfl rfl (gf0 hb27)) rfl rfl (.t rfl) (.t rfl) .neq ?_
            refine s_pk0 hb27 (.n rfl) rfl rfl (.t rfl) (.t rfl) ?_
            cases ho
            exact s_nil (fun fr h s => And.intro rfl (Exists.intro () (s.pick [0] ⟨rfl, rfl, rfl, rfl, rfl, rfl, rfl, trivial⟩ rfl (by decide))))
        · intro _
          show SRun _ _ _ _ _ _
          refine r_cond (.t rfl) (fun hq28 => ?_) (fun hq28 => ?_)
          · have ho := cnd1 ho hq28
            refine r_seq ?_
            refine r_region ?_
            refine s_assign (.n rfl) rfl rfl .b ?_
            refine s_nilq rfl ?_
            cases ho
            exact r_ret (ret_of (.inr rfl) (.v rfl .n) (by decide))
          · have ho := cnd0 ho hq28
            refine r_skipq rfl ?_
            refine r_seq ?_
            refine r_seq ?_
            refine r_region ?_
            refine s_move (.n rfl) rfl rfl (.t rfl) ?_
            refine s_not (.n rfl) rfl rfl (.t rfl) ?_
            refine s_nilq rfl ?_
            refine r_cond (.t rfl) (fun hq29 => ?_) (fun hq29 => ?_)
            · have ho := cnd1 ho hq29
              refine r_seq ?_
              obtain ⟨c32, hc32, ho⟩ := bnd ho
              refine r_cut (τ := (Bool)) (G := Unit) (fun t => (.normal, fun _ => ([(8, .val rBool (t))], [(v11, .row rStableMove (y10.1))]))) (t := c32) ?_ ?_
              · have ho := hc32
                clear hc32
                refine r_region ?_
                refine s_move (.n rfl) rfl rfl (.t rfl) ?_
                refine s_cmp (.n rfl) rfl rfl (.t rfl) (.i (by decide) (by decide)) .eql ?_
                refine s_move (.n rfl) rfl rfl (.t rfl) ?_
                rcases Bool.eq_false_or_eq_true ((y10.2 == 2)) with hb33 | hb33
                · have ho := cnd1 ho hb33
                  refine s_move (.g rfl rfl (gt1 hb33)) rfl rfl (.t rfl) ?_
                  refine s_leno 0 S65 (.g rfl rfl (gt1 hb33)) rfl rfl rfl rfl rfl (.t rfl) rfl ?_
                  refine s_cmp (.g rfl rfl (gt1 hb33)) rfl rfl (.t rfl) (.i (by decide) (by decide)) .eql ?_
                  refine s_pk1 hb33 (.n rfl) rfl rfl (.t rfl) (.t rfl) ?_
                  refine s_move (.n rfl) rfl rfl (.t rfl) ?_
                  rcases Bool.eq_false_or_eq_true (((lenI y10.1) == 0)) with hb34 | hb34
                  · have ho := cnd1 ho hb34
                    refine s_const (v := .bool true) (e := .val rBool true) rfl known_te (.g rfl rfl (gt1 hb34)) rfl rfl rfl .f rfl ?_
                    refine s_pk1 hb34 (.n rfl) rfl rfl (.t rfl) (.t rfl) ?_
                    refine s_assign (.n rfl) rfl rfl (.t rfl) ?_
                    cases ho
                    exact s_nil (fun fr h s => And.intro rfl (Exists.intro () (s.pick [0] ⟨rfl, trivial⟩ rfl (by decide))))
                  · have ho := cnd0 ho hb34
                    refine s_skip (.g rfl rfl (gt0 hb34)) rfl ?_
                    refine s_pk0 hb34 (.n rfl) rfl rfl (.t rfl) .b ?_
                    refine s_assign (.n rfl) rfl rfl (.t rfl) ?_
                    cases ho
                    exact s_nil (fun fr h s => And.intro rfl (Exists.intro () (s.pick [0] ⟨rfl, trivial⟩ rfl (by decide))))
                · have ho := cnd0 ho hb33
                  refine s_skip (.g rfl rfl (gt0 hb33)) rfl ?_
                  refine s_skip (.g rfl rfl (gt0 hb33)) rfl ?_
                  refine s_skip (.g rfl rfl (gt0 hb33)) rfl ?_
                  refine s_pk0 hb33 (.n rfl) rfl rfl (.t rfl) .b ?_
                  refine s_move (.n rfl) rfl rfl (.t rfl) ?_
                  refine s_skip (.g rfl rfl rfl) rfl ?_
                  refine s_pick0 (.n rfl) rfl rfl (.t rfl) .b ?_
                  refine s_assign (.n rfl) rfl rfl (.t rfl) ?_
                  cases ho
                  exact s_nil (fun fr h s => And.intro rfl (Exists.intro () (s.pick [0] ⟨rfl, trivial⟩ rfl (by decide))))
              · intro _
                show SRun _ _ _ _ _ _
                cases ho
                exact r_ret (ret_of (.inr rfl) (.v rfl .n) (by decide))
            · have ho := cnd0 ho hq29
              refine r_skipq rfl ?_
              refine r_seq ?_
              refine r_region ?_
              refine s_move (.n rfl) rfl rfl (.t rfl) ?_
              refine s_move (.n rfl) rfl rfl (.t rfl) ?_
              refine s_load U36 (.n rfl) rfl rfl (.t rfl) ?_
              obtain ⟨y35, hy35, ho⟩ := bnd ho
              refine s_calll (g_ref09_Play_ok hy35) (.r (flat_pair flat_int (flat_pair flat_int (flat_pair flat_int flat_unit))) .n) rfl (.n rfl) rfl rfl rfl .f (.c (.o (.t rfl)) (.c (.o (.t rfl)) (.c (.o (.t rfl)) .n))) ?_
              intro v36
              show SOps _ _ _ _ _ _ _ _
              refine s_assign (.n rfl) rfl rfl (.t rfl) ?_
              refine s_nilq rfl ?_
              refine r_seq ?_
              refine r_seq ?_
              obtain ⟨c39, hc39, ho⟩ := bnd ho
              refine r_cut (τ := (Bool)) (G := Unit) (fun t => (.normal, fun _ => ([(11, .raw v11), (15, .raw v36), (114, .val rBool (t))], [(v36, .row rStableMove (y35)), (v11, .row rStableMove (y10.1))]))) (t := c39) ?_ ?_
              · have ho := hc39
                clear hc39
                refine r_region ?_
                refine s_move (.n rfl) rfl rfl (.t rfl) ?_
                refine s_cmp (.n rfl) rfl rfl (.t rfl) (.i (by decide) (by decide)) .neq ?_
                refine s_move (.n rfl) rfl rfl (.t rfl) ?_
                rcases Bool.eq_false_or_eq_true ((y10.2 != 0)) with hb40 | hb40
                · have ho := cnd1 ho hb40
                  refine s_skip (.g rfl rfl (gf1 hb40)) rfl ?_
                  refine s_skip (.g rfl rfl (gf1 hb40)) rfl ?_
                  refine s_skip (.g rfl rfl (gf1 hb40)) rfl ?_
                  refine s_skip (.g rfl rfl (gf1 hb40)) rfl ?_
                  refine s_skip (.g rfl rfl (gf1 hb40)) rfl ?_
                  refine s_pk1 hb40 (.n rfl) rfl rfl (.t rfl) .b ?_
                  cases ho
                  exact s_nil (fun fr h s => And.intro rfl (Exists.intro () (s.pick [0, 1] ⟨rfl, rfl, rfl, trivial⟩ rfl (by decide))))
                · have ho := cnd0 ho hb40
                  refine s_move (.g rfl rfl (gf0 hb40)) rfl rfl (.t rfl) ?_
                  refine s_leno 1 S65 (.g rfl rfl (gf0 hb40)) rfl rfl rfl rfl rfl (.t rfl) rfl ?_
                  refine s_move (.g rfl rfl (gf0 hb40)) rfl rfl (.t rfl) ?_
                  refine s_leno 0 S65 (.g rfl rfl (gf0 hb40)) rfl rfl rfl rfl rfl (.t rfl) rfl ?_
                  refine s_cmp (.g rfl rfl (gf0 hb40)) rfl rfl (.t rfl) (.t rfl) .neq ?_
                  refine s_pk0 hb40 (.n rfl) rfl rfl (.t rfl) (.t rfl) ?_
                  cases ho
                  exact s_nil (fun fr h s => And.intro rfl (Exists.intro () (s.pick [0, 1] ⟨rfl, rfl, rfl, trivial⟩ rfl (by decide))))
              · intro _
                show SRun _ _ _ _ _ _
                refine r_cond (.t rfl) (fun hq41 => ?_) (fun hq41 => ?_)
                · have ho := cnd1 ho hq41
                  refine r_seq ?_
                  refine r_region ?_
                  refine s_assign (.n rfl) rfl rfl .b ?_
                  refine s_nilq rfl ?_
                  cases ho
                  exact r_ret (ret_of (.inr rfl) (.v rfl .n) (by decide))
                · have ho := cnd0 ho hq41
                  refine r_skipq rfl ?_
                  refine r_seq ?_
                  refine r_seq ?_
                  refine r_region ?_
                  refine s_assign (.n rfl) rfl rfl (.i (by decide) (by decide)) ?_
                  refine s_nilq rfl ?_
                  refine r_block ?_
                  obtain ⟨t52, ht52, ho⟩ := bnd ho
                  refine r_loop (σ := (Int)) (τ := Unit ⊕ (Bool)) (G := List AVal) (fun s g => ([(11, .raw v11), (15, .raw v36), (16, .val (rInt .i64) (s))], [(v36, .row rStableMove (y35)), (v11, .row rStableMove (y10.1))])) (altX (fun b => (.exit 0, fun g => ([], []))) (fun b => (.ret, fun g => ([(8, .val rBool (b))], [])))) _ [] ht52 (fun fr h s => s.pick [0, 1] ⟨rfl, rfl, rfl, trivial⟩ rfl (by decide)) ?_ ?_ ?_
                  · intro t
                    rcases t with t | t
                    · exact (show (.exit 0 : AExit) ≠ .normal from fun e => by cases e)
                    · exact (show (.ret : AExit) ≠ .normal from fun e => by cases e)
                  · clear ho
                    intro s46 g47 r53 ho
                    refine r_seq ?_
                    refine r_seq ?_
                    refine r_region ?_
                    refine s_move (.n rfl) rfl rfl (.t rfl) ?_
                    refine s_move (.n rfl) rfl rfl (.t rfl) ?_
                    refine s_leno 1 S65 (.n rfl) rfl rfl rfl rfl rfl (.t rfl) rfl ?_
                    refine s_cmp (.n rfl) rfl rfl (.t rfl) (.t rfl) .lss ?_
                    refine s_nilq rfl ?_
                    refine r_cond (.t rfl) (fun hq48 => ?_) (fun hq48 => ?_)
                    · have ho := cnd1 ho hq48
                      refine r_skipq rfl ?_
                      refine r_seq ?_
                      refine r_block ?_
                      refine r_seq ?_
                      refine r_draw [3, 7] (by kernel_rfl) ?_
                      refine s_move (.n rfl) rfl rfl (.t rfl) ?_
                      refine s_move (.n rfl) rfl rfl (.t rfl) ?_
                      obtain ⟨x49, hx49, ho⟩ := bnd ho
                      refine s_idxo 1 S65 hx49 (.n rfl) rfl rfl (.t rfl) rfl (.t rfl) ?_
                      refine s_loado 1 (fun _ h => by cases h <;> rfl) U71 FOk.self (idx_inv hx49).2.2.2 (.n rfl) rfl rfl (.t rfl) rfl ?_
                      refine s_move (.n rfl) rfl rfl (.t rfl) ?_
                      refine s_move (.n rfl) rfl rfl (.t rfl) ?_
                      obtain ⟨x50, hx50, ho⟩ := bnd ho
                      refine s_idxo 0 S65 hx50 (.n rfl) rfl rfl (.t rfl) rfl (.t rfl) ?_
                      refine s_loado 0 (fun _ h => by cases h <;> rfl) U71 FOk.self (idx_inv hx50).2.2.2 (.n rfl) rfl rfl (.t rfl) rfl ?_
                      refine s_sne E71 rfl (.n rfl) rfl rfl (.t rfl) (.t rfl) ?_
                      refine s_nilq rfl ?_
                      refine r_cond (.t rfl) (fun hq51 => ?_) (fun hq51 => ?_)
                      · have ho := cnd1 ho hq51
                        refine r_seq ?_
                        refine r_region ?_
                        refine s_assign (.n rfl) rfl rfl .b ?_
                        refine s_nilq rfl ?_
                        cases ho
                        exact r_ret (fun fr h s => And.intro rfl (Exists.intro [] (s.pick [] ⟨rfl, trivial⟩ rfl (by decide))))
                      · have ho := cnd0 ho hq51
                        refine r_skipq rfl ?_
                        refine r_region ?_
                        refine s_move (.n rfl) rfl rfl (.t rfl) ?_
                        refine s_ar (.n rfl) rfl rfl (.t rfl) (.i (by decide) (by decide)) .add ?_
                        refine s_assign (.n rfl) rfl rfl (.t rfl) ?_
                        cases ho
                        exact s_nil (fun fr h s => And.intro rfl (Exists.intro [] (s.pick [0, 1] ⟨rfl, rfl, rfl, trivial⟩ rfl (by decide))))
                    · have ho := cnd0 ho hq48
                      cases ho
                      exact r_exit (fun fr h s => And.intro rfl (Exists.intro [] (s.pick [] trivial rfl (by decide))))
                  · clear ht52
                    rcases t52 with b54 | b55
                    · have ho := alt_l ho
                      intro g56
                      show ∀ fr h, St _ [] [] fr h → _
                      show SRun _ _ _ _ _ _
                      refine r_seq ?_
                      refine r_region ?_
                      refine s_const (v := .bool true) (e := .val rBool true) rfl known_te (.n rfl) rfl rfl rfl .f rfl ?_
                      refine s_assign (.n rfl) rfl rfl (.t rfl) ?_
                      refine s_nilq rfl ?_
                      cases ho
                      exact r_ret (ret_of (.inr rfl) (.v rfl .n) (by decide))
                    · have ho := alt_r ho
                      intro g57
                      show ∀ fr h, St _ [(8, .val rBool (b55))] [] fr h → _
                      cases ho
                      exact id (ret_of (.inr rfl) (.v rfl .n) (by decide))
end Go.Ai.TabYtpiblfbidgcjaaa
