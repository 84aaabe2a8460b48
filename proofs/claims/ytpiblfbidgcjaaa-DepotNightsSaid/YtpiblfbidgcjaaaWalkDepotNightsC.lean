/- Written by program: walks through functions. -/
import Derived.Test.YtpiblfbidgcjaaaM10
namespace Go.Ai.TabYtpiblfbidgcjaaa
open Go Go.Ai Go.Ai.Sx Go.Proofs
attribute [local irreducible] SOps
set_option maxRecDepth 100000
set_option maxHeartbeats 4000000
instance i56 {n_0 low_1 high_2} : FI ktab 56 (g_depot_within n_0 low_1 high_2) [vI n_0, vI low_1, vI high_2] (fun out => [.val rBool (out)]) := ⟨fun out ho => by
 delta g_depot_within at ho
 refine fn fun _ _ => ?_
 refine run 5 ?_
 obtain ⟨c2, hc2, ho⟩ := bnd ho
 refine wcx c2 [] (fun t => (.normal, fun _ => ([(6, vB (t))], []))) SEL ?_ fun _ => ?_
 ·exact w hc2
 ·show SRun ..
  cases ho; exact r_ret (ret_of (.inr rfl) (.v rfl .n) (by decide))⟩
instance i15 {a_0 b_1} : FI ktab 15 (g_ref09_Same a_0 b_1) [.val (rSlice (rInt .i64)) a_0, .val (rSlice (rInt .i64)) b_1] (fun out => [.val rBool (out)]) := ⟨fun out ho => by
 delta g_ref09_Same at ho
 refine fn fun _ _ => ?_
 refine run 13 ?_
 refine wct ho (fun hq1 ho => ?_) fun hq1 ho => ?_
 ·exact w ho
 ·refine run 7 ?_
  obtain ⟨t12, ht12, ho⟩ := bnd ho
  refine wlp ht12 [0, 1] (fun s g => ([(5, vI (s))], [])) (altX (fun b => (.exit 0, fun g => ([], []))) (fun b => (.ret, fun g => ([(4, vB (b))], [])))) [] SEL (pk []) NE (fun s6 g7 _ ho => ?_) fun g13 => ?_
  ·exact w ho
  ·rcases t12 with b14 | b15
   ·have ho := alt_l ho
    show SRun ..
    exact w ho
   ·have ho := alt_r ho
    cases ho; exact id (ret_of (.inr rfl) (.v rfl .n) (by decide))⟩
instance i42 {p_0} : FI ktab 42 (g_depot_night_valid p_0) [.val (rPtr rdepot_night) p_0] (fun out => [.val rBool (out)]) := ⟨fun out ho => by
 delta g_depot_night_valid at ho
 refine fn fun _ _ => ?_
 refine run 6 ?_
 obtain ⟨c4, hc4, ho⟩ := bnd ho
 refine wcx c4 [0] (fun t => (.normal, fun _ => ([(36, vB (t))], []))) SEL ?_ fun _ => ?_
 ·exact w hc4
 ·show SRun ..
  refine wct ho (fun hq8 ho => ?_) fun hq8 ho => ?_
  ·exact w ho
  ·refine run 12 ?_
   obtain ⟨t23, ht23, ho⟩ := bnd ho
   refine wlp ht23 [0, 40, 41] (fun s g => ([(42, vI (s))], [])) (altX (fun b => (.exit 0, fun g => ([], []))) (fun b => (.ret, fun g => ([(2, vB (b))], [])))) [] SEL (pk []) NE (fun s15 g16 _ ho => ?_) fun g24 => ?_
   ·refine run 5 ?_
    refine wct ho (fun hq17 ho => ?_) fun hq17 ho => ?_
    ·refine run 5 ?_
     obtain ⟨x18, hx18, ho⟩ := bnd ho
     refine run 2 ?_
     refine xal (zv := .agg [.int .i64 0, .bool false]) (es := [vI (0), vB (false)]) (by kernel_rfl) fun b19 => ?_
     refine run 1 ?_
     refine s_st (st_freezeb (R := rStableTrack) (a := x18) 0 [4] (cells_pair (cells_one rfl) (cells_pair (cells_one rfl) cells_unit rfl) rfl) rfl rfl ⟨rfl, trivial⟩) ?_
     exact w ho
    ·cases ho; exact r_exit (lf [] [])
   ·rcases t23 with b25 | b26
    ·have ho := alt_l ho
     show SRun ..
     refine run 11 ?_
     obtain ⟨t89, ht89, ho⟩ := bnd ho
     refine wlp ht89 [0, 54, 55] (fun s g => ([(56, vI (s))], [])) (altX (fun b => (.exit 2, fun g => ([], []))) (fun b => (.ret, fun g => ([(2, vB (b))], [])))) [] SEL (pk []) NE (fun s57 g58 _ ho => ?_) fun g90 => ?_
     ·refine run 5 ?_
      refine wct ho (fun hq59 ho => ?_) fun hq59 ho => ?_
      ·refine run 6 ?_
       obtain ⟨x60, hx60, ho⟩ := bnd ho
       refine run 2 ?_
       refine xal (zv := .agg [.int .i64 0, .int .i64 0, .int .i64 0, .int .i64 0]) (es := [vI (0), vI (0), vI (0), vI (0)]) (by kernel_rfl) fun b61 => ?_
       refine run 2 ?_
       refine s_st (st_freezeb (R := rStableCar) (a := x60) 0 [6] (cells_pair (cells_one rfl) (cells_pair (cells_one rfl) (cells_pair (cells_one rfl) (cells_pair (cells_one rfl) cells_unit rfl) rfl) rfl) rfl) rfl rfl ⟨rfl, trivial⟩) ?_
       refine run 5 ?_
       refine xcl ho ?_
       intro y73 hy73 ho
       show SOps ..
       refine run 2 ?_
       refine wbr ho (fun hb74 ho => ?_) fun hb74 ho => ?_
       ·refine run 36 ?_
        refine r_cond (.t rfl) (fun _ => ?_) (fun hq => by cases hq)
        exact w ho
       ·refine run 2 ?_
        refine xcl ho ?_
        intro y76 hy76 ho
        show SOps ..
        refine run 3 ?_
        refine wbr ho (fun hb77 ho => ?_) fun hb77 ho => ?_
        ·refine run 30 ?_
         refine r_cond (.t rfl) (fun _ => ?_) (fun hq => by cases hq)
         exact w ho
        ·refine run 2 ?_
         refine xcl ho ?_
         intro y79 hy79 ho
         show SOps ..
         refine run 3 ?_
         refine wbr ho (fun hb80 ho => ?_) fun hb80 ho => ?_
         ·refine run 24 ?_
          refine r_cond (.t rfl) (fun _ => ?_) (fun hq => by cases hq)
          exact w ho
         ·refine run 2 ?_
          refine xcl ho ?_
          intro y82 hy82 ho
          show SOps ..
          refine run 3 ?_
          refine wbr ho (fun hb83 ho => ?_) fun hb83 ho => ?_
          ·refine run 18 ?_
           refine r_cond (.t rfl) (fun _ => ?_) (fun hq => by cases hq)
           exact w ho
          ·refine run 3 ?_
           refine wbr ho (fun hb85 ho => ?_) fun hb85 ho => ?_
           ·exact w ho
           ·refine run 15 ?_
            refine r_cond (.t rfl) (fun hq => by cases hq) (fun _ => ?_)
            exact w ho
      ·cases ho; exact r_exit (lf [] [])
     ·rcases t89 with b91 | b92
      ·have ho := alt_l ho
       show SRun ..
       refine run 11 ?_
       obtain ⟨t135, ht135, ho⟩ := bnd ho
       refine wlp ht135 [0, 105, 106] (fun s g => ([(107, vI (s))], [])) (altX (fun b => (.exit 4, fun g => ([], []))) (fun b => (.ret, fun g => ([(2, vB (b))], [])))) [] SEL (pk []) NE (fun s113 g114 _ ho => ?_) fun g136 => ?_
       ·refine run 5 ?_
        refine wct ho (fun hq115 ho => ?_) fun hq115 ho => ?_
        ·refine run 6 ?_
         obtain ⟨x116, hx116, ho⟩ := bnd ho
         refine run 2 ?_
         refine xal (zv := .agg [.int .i64 0, .int .i64 0]) (es := [vI (0), vI (0)]) (by kernel_rfl) fun b117 => ?_
         refine run 2 ?_
         refine s_st (st_freezeb (R := rStableLeave) (a := x116) 0 [8] (cells_pair (cells_one rfl) (cells_pair (cells_one rfl) cells_unit rfl) rfl) rfl rfl ⟨rfl, trivial⟩) ?_
         refine run 5 ?_
         refine xcl ho ?_
         intro y125 hy125 ho
         show SOps ..
         refine run 2 ?_
         refine wbr ho (fun hb126 ho => ?_) fun hb126 ho => ?_
         ·refine run 24 ?_
          refine r_cond (.t rfl) (fun _ => ?_) (fun hq => by cases hq)
          exact w ho
         ·refine run 2 ?_
          refine xcl ho ?_
          intro y128 hy128 ho
          show SOps ..
          refine run 3 ?_
          refine wbr ho (fun hb129 ho => ?_) fun hb129 ho => ?_
          ·refine run 18 ?_
           refine r_cond (.t rfl) (fun _ => ?_) (fun hq => by cases hq)
           exact w ho
          ·refine run 3 ?_
           refine wbr ho (fun hb131 ho => ?_) fun hb131 ho => ?_
           ·exact w ho
           ·refine run 15 ?_
            refine r_cond (.t rfl) (fun hq => by cases hq) (fun _ => ?_)
            exact w ho
        ·cases ho; exact r_exit (lf [] [])
       ·rcases t135 with b137 | b138
        ·have ho := alt_l ho
         show SRun ..
         exact w ho
        ·have ho := alt_r ho
         cases ho; exact id (ret_of (.inr rfl) (.v rfl .n) (by decide))
      ·have ho := alt_r ho
       cases ho; exact id (ret_of (.inr rfl) (.v rfl .n) (by decide))
    ·have ho := alt_r ho
     cases ho; exact id (ret_of (.inr rfl) (.v rfl .n) (by decide))⟩
instance i43 {n_0} : FI ktab 43 (g_depot_night_quiet n_0) [.val (rPtr rdepot_night) n_0] (fun out => [.val rBool (out)]) := ⟨fun out ho => by
 delta g_depot_night_quiet at ho
 refine fn fun _ _ => ?_
 refine run 5 ?_
 obtain ⟨c4, hc4, ho⟩ := bnd ho
 refine wcx c4 [] (fun t => (.normal, fun _ => ([(2, vB (t))], []))) SEL ?_ fun _ => ?_
 ·exact w hc4
 ·show SRun ..
  cases ho; exact r_ret (ret_of (.inr rfl) (.v rfl .n) (by decide))⟩
instance i49 {s_0} : FI ktab 49 (g_slices_Clone_int_int s_0) [.val (rSlice (rInt .i64)) s_0] (fun out => [.row (rInt .i64) out]) := ⟨fun out ho => by
 delta g_slices_Clone_int_int at ho
 refine fn fun _ _ => ?_
 refine run 2 ?_
 refine s_st (st_nilrow (rInt .i64)) ?_
 refine s_assign (.n rfl) rfl rfl .nilr ?_
 refine run 5 ?_
 refine s_isnil S22 (.n rfl) rfl rfl (.t rfl) (fun he => ?_) ?_
 ·subst he
  have e : out = [] := by simp [appO] at ho; first | exact ho | exact ho.symm
  subst e
  refine run 1 ?_
  refine r_cond (.t rfl) (fun _ => ?_) (fun hq => by cases hq)
  refine run 2 ?_
  refine s_st (st_nilrow (rInt .i64)) ?_
  refine s_assign (.n rfl) rfl rfl .nilr ?_
  refine run 1 ?_
  exact r_ret (ret_of (.inr rfl) (.r 0 rfl rfl .n) (by decide))
 ·refine run 1 ?_
  refine r_cond (.t rfl) (fun hq => by cases hq) (fun _ => ?_)
  refine run 3 ?_
  refine s_bso (R := (rInt .i64)) S22 Y3 (.n rfl) rfl rfl (Elts.n (R := (rInt .i64))) rfl (by decide) ?_
  intro v1
  refine run 1 ?_
  refine xap fun v2 => ?_
  refine run 2 ?_
  exact r_ret (ret_of (.inr rfl) (.r 0 rfl rfl .n) (by decide))⟩
instance i67 {n_0 tracks_1} : FI ktab 67 (g_depot_night_fit n_0 tracks_1) [.val (rPtr rdepot_night) n_0, .val (rSlice (rInt .i64)) tracks_1] (fun out => [.val rBool (out)]) := ⟨fun out ho => by
 delta g_depot_night_fit at ho
 refine fn fun _ _ => ?_
 refine run 11 ?_
 obtain ⟨x1, hx1, ho⟩ := bnd ho
 refine xmk fun v2 => ?_
 refine run 10 ?_
 obtain ⟨t30, ht30, ho⟩ := bnd ho
 refine wlp ht30 [0, 5, 14, 15] (fun s g => ([(16, vI (s.1))], [(v2, .row (rInt .i64) (s.2))])) (altX (fun b => (.exit 0, fun g => ([], []))) (fun b => (.ret, fun g => ([(4, vB (b.1))], [])))) [] SEL (pk [0]) NE (fun s20 g21 _ ho => ?_) fun g31 => ?_
 ·refine run 5 ?_
  refine wct ho (fun hq22 ho => ?_) fun hq22 ho => ?_
  ·refine run 6 ?_
   obtain ⟨x23, hx23, ho⟩ := bnd ho
   refine run 6 ?_
   refine r_draw [3] (by kernel_rfl) ?_
   refine run 2 ?_
   obtain ⟨x24, hx24, ho⟩ := bnd ho
   refine run 7 ?_
   obtain ⟨x25, hx25, ho⟩ := bnd ho
   refine run 4 ?_
   obtain ⟨x26, hx26, ho⟩ := bnd ho
   refine run 4 ?_
   refine r_draw [3] (by kernel_rfl) ?_
   refine run 2 ?_
   obtain ⟨x27, hx27, ho⟩ := bnd ho
   refine run 7 ?_
   obtain ⟨x28, hx28, ho⟩ := bnd ho
   refine run 5 ?_
   refine wct ho (fun hq29 ho => ?_) fun hq29 ho => ?_
   ·exact w ho
   ·refine run 4 ?_
    cases ho; exact s_nil (lf [] [0])
  ·cases ho; exact r_exit (lf [] [])
 ·rcases t30 with b32 | b33
  ·have ho := alt_l ho
   show SRun ..
   exact w ho
  ·have ho := alt_r ho
   cases ho; exact id (ret_of (.inr rfl) (.v rfl .n) (by decide))⟩
theorem g_depot_night_tracked_1_1_body_ok {σ τ : Type} {step : σ → ((List Int)) → Option (σ ⊕ τ)} {rec : σ → (List Int) → depot_night → Option ((Bool) × (σ ⊕ τ))} {yv : AVal} {K : σ ⊕ τ → List AVal → Sx.Obj} (hcb : CbAt ktab yv (fun x => [.val (rSlice (rInt .i64)) (x)]) step K) (hrec : ∀ {s_ : σ} {tracks_0 : (List Int)} {p_1 : depot_night} {out : ((Bool) × (σ ⊕ τ))}, rec s_ tracks_0 p_1 = some out → ∀ (γ0 : List AVal), FunM ktab 66 [.val (rSlice (rInt .i64)) tracks_0, .val (rPtr (rPtr rdepot_night)) p_1, .val (rPtr rRaw) yv, .val (rSelfP 66 [.val (rPtr (rPtr rdepot_night)) (p_1), .val (rPtr rRaw) (yv)]) ()] [(yv, K (.inl s_) γ0)] [.val rBool (out.1)] (fun γ => [(yv, K (out.2) (untup (gh γ 0)))])) {s_ : σ} {tracks_0 : (List Int)} {p_1 : depot_night} {out : ((Bool) × (σ ⊕ τ))} (ho : g_depot_night_tracked_1_1_body step rec s_ tracks_0 p_1 = some out) (γ0 : List AVal) : FunM ktab 66 [.val (rSlice (rInt .i64)) tracks_0, .val (rPtr (rPtr rdepot_night)) p_1, .val (rPtr rRaw) yv, .val (rSelfP 66 [.val (rPtr (rPtr rdepot_night)) (p_1), .val (rPtr rRaw) (yv)]) ()] [(yv, K (.inl s_) γ0)] [.val rBool (out.1)] (fun γ => [(yv, K (out.2) (untup (gh γ 0)))]) := by
 refine funm_of (F := Try.f66) (by rfl) (by rfl) (by rfl) (fun C => ?_)
 delta g_depot_night_tracked_1_1_body at ho
 refine run 9 ?_
 refine xcl ho ?_
 intro y1 hy1 ho
 show SOps ..
 refine run 2 ?_
 refine wct ho (fun hq2 ho => ?_) fun hq2 ho => ?_
 ·refine run 4 ?_
  cases ho; exact r_ret (retm_of [0] [.tuple γ0] (.inr rfl) (.v rfl .n) rfl (by decide))
 ·refine run 13 ?_
  refine wct ho (fun hq3 ho => ?_) fun hq3 ho => ?_
  ·refine run 2 ?_
   refine s_load UR27 (.n rfl) rfl rfl (.t rfl) ?_
   refine s_st (st_unraw (n := 19) rfl) ?_
   refine run 1 ?_
   obtain ⟨y4, hy4, ho⟩ := bnd ho
   refine s_cally [0] [] (fun _ h => by cases h) hcb hy4 rfl rfl rfl (by decide) (.n rfl) rfl rfl rfl (.t rfl) (.c (.t rfl) .n) ?_
   intro v5
   refine run 2 ?_
   cases ho; exact r_ret (retm_of [0] [.tuple v5] (.inr rfl) (.v rfl .n) rfl (by decide))
  ·refine run 12 ?_
   obtain ⟨t37, ht37, ho⟩ := bnd ho
   refine wlp ht37 [0, 3, 26] (fun s g => ([(27, vI (s.1))], [(yv, K s.2 ((untup (gh g 0))))])) (altX (fun b => (.exit 0, fun g => ([], [(yv, K b ((untup (gh g 0))))]))) (fun b => (.ret, fun g => ([(5, vB (b.1))], [(yv, K b.2 ((untup (gh g 0))))])))) [.tuple γ0] SEL (pk [0]) NE (fun s25 g26 _ ho => ?_) fun g38 => ?_
   ·refine run 5 ?_
    refine wct ho (fun hq27 ho => ?_) fun hq27 ho => ?_
    ·refine run 10 ?_
     refine s_loadself rfl UR27 (.n rfl) rfl rfl (.t rfl) ?_
     refine run 1 ?_
     refine xcl ho ?_
     intro y28 hy28 ho v29
     show SOps ..
     refine run 2 ?_
     obtain ⟨x31, hx31, ho⟩ := bnd ho
     refine xap fun v32 => ?_
     refine s_st (st_freeze 0 [35] rfl rfl ⟨rfl, trivial⟩) ?_
     obtain ⟨s33, hs33, ho⟩ := bnd ho
     refine s_st (st_cbl (K := K) 0 (goL_inv hs33) rfl rfl) ?_
     obtain ⟨y34, hy34, ho⟩ := bnd ho
     refine s_callcd (ps := []) (es := [.val (rSlice (rInt .i64)) (x31)]) (cs := [.val (rPtr (rPtr rdepot_night)) (p_1), .val (rPtr rRaw) (yv), .val (rSelfP 66 [.val (rPtr (rPtr rdepot_night)) (p_1), .val (rPtr rRaw) (yv)]) ()]) [0] [] (fun _ h => by cases h <;> exact ⟨by kernel_rfl, by kernel_rfl⟩) (hrec hy34 ((untup (gh g26 0)))) rfl rfl (by decide) rfl (.n rfl) rfl rfl rfl (.t rfl) (.c (.t rfl) .n) ?_
     intro g35
     show SOps ..
     refine run 2 ?_
     refine wct ho (fun hq36 ho => ?_) fun hq36 ho => ?_
     ·refine run 4 ?_
      cases ho; exact r_ret (lf [.tuple ((untup (gh g35 0)))] [0])
     ·refine run 4 ?_
      cases ho; exact s_nil (lf [.tuple ((untup (gh g35 0)))] [0])
    ·cases ho; exact r_exit (lf [.tuple ((untup (gh g26 0)))] [0])
   ·rcases t37 with b39 | b40
    ·have ho := alt_l ho
     show SRun ..
     refine run 4 ?_
     cases ho; exact r_ret (retm_of [0] [.tuple ((untup (gh g38 0)))] (.inr rfl) (.v rfl .n) rfl (by decide))
    ·have ho := alt_r ho
     cases ho; exact id (retm_of [0] [.tuple ((untup (gh g38 0)))] (.inr rfl) (.v rfl .n) rfl (by decide))
theorem g_depot_night_tracked_1_1_ok {σ τ : Type} {step : σ → ((List Int)) → Option (σ ⊕ τ)} {yv : AVal} {K : σ ⊕ τ → List AVal → Sx.Obj} (hcb : CbAt ktab yv (fun x => [.val (rSlice (rInt .i64)) (x)]) step K) {k : Nat} {s_ : σ} {tracks_0 : (List Int)} {p_1 : depot_night} {out : ((Bool) × (σ ⊕ τ))} (ho : g_depot_night_tracked_1_1 step k s_ tracks_0 p_1 = some out) (γ0 : List AVal) : FunM ktab 66 [.val (rSlice (rInt .i64)) tracks_0, .val (rPtr (rPtr rdepot_night)) p_1, .val (rPtr rRaw) yv, .val (rSelfP 66 [.val (rPtr (rPtr rdepot_night)) (p_1), .val (rPtr rRaw) (yv)]) ()] [(yv, K (.inl s_) γ0)] [.val rBool (out.1)] (fun γ => [(yv, K (out.2) (untup (gh γ 0)))]) := by
 induction k generalizing s_ tracks_0 p_1 out γ0 with
 | zero => cases ho
 | succ k ih => exact g_depot_night_tracked_1_1_body_ok hcb (fun h γ0 => ih h γ0) ho γ0
theorem g_depot_night_tracked_1_okm {σ τ : Type} {step : σ → ((List Int)) → Option (σ ⊕ τ)} {yv : AVal} {K : σ ⊕ τ → List AVal → Sx.Obj} (hcb : CbAt ktab yv (fun x => [.val (rSlice (rInt .i64)) (x)]) step K) {s_ : σ} {p_1 : depot_night} {out : ((σ ⊕ τ))} (ho : g_depot_night_tracked_1 step s_ p_1 = some out) (γ0 : List AVal) : FunM ktab 65 [.raw yv, .val (rPtr (rPtr rdepot_night)) p_1] [(yv, K (.inl s_) γ0)] [] (fun γ => [(yv, K (out) (untup (gh γ 0)))]) := by
 refine funm_of (F := Try.f65) (by rfl) (by rfl) (by rfl) (fun C => ?_)
 delta g_depot_night_tracked_1 at ho
 refine run 2 ?_
 refine s_st (st_rawcb (n := 0) hcb rfl) ?_
 refine run 4 ?_
 refine xal (zv := .nilfunc) (es := [.raw (.nilfunc)]) (by kernel_rfl) fun b1 => ?_
 refine run 3 ?_
 refine s_mkclo (.n rfl) rfl rfl .n (.c (.t rfl) (.c (.t rfl) (.c (.t rfl) .n))) ?_
 refine s_storeb 0 (UR27).sz rfl (by exact Nat.le_of_ble_eq_true rfl) (.n rfl) rfl rfl (.t rfl) (.t rfl) rfl rfl ?_
 refine s_st (st_freezeg 0 [3] (self_box (g := 66) (cs := [.val (rPtr (rPtr rdepot_night)) (p_1), .val (rPtr rRaw) (yv)]) rfl) rfl rfl ⟨rfl, trivial⟩) ?_
 refine run 2 ?_
 refine s_loadself rfl UR27 (.n rfl) rfl rfl (.t rfl) ?_
 obtain ⟨y3, hy3, ho⟩ := bnd ho
 refine s_callcd (ps := []) (es := [.val (rSlice (rInt .i64)) ([])]) (cs := [.val (rPtr (rPtr rdepot_night)) (p_1), .val (rPtr rRaw) (yv), .val (rSelfP 66 [.val (rPtr (rPtr rdepot_night)) (p_1), .val (rPtr rRaw) (yv)]) ()]) [0] [] (fun _ h => by cases h) (g_depot_night_tracked_1_1_ok hcb hy3 γ0) rfl rfl (by decide) rfl (.n rfl) rfl rfl rfl (.t rfl) (.c (.nil (R := (rInt .i64))) .n) ?_
 intro g4
 show SOps ..
 cases ho; exact s_nil (retm_of [0] [.tuple ((untup (gh g4 0)))] (.inl rfl) .n rfl (by decide))
theorem g_depot_night_tracked_1_ok {σ τ : Type} {step : σ → ((List Int)) → Option (σ ⊕ τ)} {yv : AVal} {K : σ ⊕ τ → List AVal → Sx.Obj} (hcb : CbAt ktab yv (fun x => [.val (rSlice (rInt .i64)) (x)]) step K) {s_ : σ} {p_1 : depot_night} {out : ((σ ⊕ τ))} (ho : g_depot_night_tracked_1 step s_ p_1 = some out) (γ0 : List AVal) : FunM ktab 65 [.raw yv, .val (rPtr (rPtr rdepot_night)) p_1] [(yv, K (.inl s_) γ0)] [] (fun γ => [(yv, K (out) γ)]) :=
 funm_gh (g_depot_night_tracked_1_okm hcb ho γ0)
instance i44 {n_0} : FI ktab 44 (g_depot_night_tracked n_0) [.val (rPtr rdepot_night) n_0] (fun out => [.val (rClo 65 [] [.val (rPtr (rPtr rdepot_night)) (out)]) ()]) := ⟨fun out ho => by
 delta g_depot_night_tracked at ho
 refine fn fun _ _ => ?_
 refine run 3 ?_
 refine s_pure rfl (.n rfl) rfl (e := .raw .nilfunc) (fun z fr h s => ⟨_, rfl, by simp only [TE.ok]; rfl⟩) ?_
 refine run 3 ?_
 refine s_mkclo (.n rfl) rfl rfl .n (.c (.t rfl) .n) ?_
 exact w ho⟩
instance i72 {s_0 v_1} : FI ktab 72 (g_slices_Index_int_int s_0 v_1) [.val (rSlice (rInt .i64)) s_0, vI v_1] (fun out => [.val (rInt .i64) (out)]) := ⟨fun out ho => by
 delta g_slices_Index_int_int at ho
 refine fn fun _ _ => ?_
 refine run 12 ?_
 obtain ⟨t9, ht9, ho⟩ := bnd ho
 refine wlp ht9 [0, 1, 7] (fun s g => ([(8, vI (s))], [])) (altX (fun b => (.exit 0, fun g => ([], []))) (fun b => (.ret, fun g => ([(4, vI (b))], [])))) [] SEL (pk []) NE (fun s4 g5 _ ho => ?_) fun g10 => ?_
 ·exact w ho
 ·rcases t9 with b11 | b12
  ·have ho := alt_l ho
   show SRun ..
   exact w ho
  ·have ho := alt_r ho
   cases ho; exact id (ret_of (.inr rfl) (.v rfl .n) (by decide))⟩
instance i48 {s_0 v_1} : FI ktab 48 (g_slices_Contains_int_int s_0 v_1) [.val (rSlice (rInt .i64)) s_0, vI v_1] (fun out => [.val rBool (out)]) := ⟨fun out ho => by
 delta g_slices_Contains_int_int at ho
 refine fn fun _ _ => ?_
 exact w ho⟩
instance i69 {n_0 car_1 leave_2} : FI ktab 69 (g_depot_night_takes n_0 car_1 leave_2) [.val (rPtr rdepot_night) n_0, vI car_1, vI leave_2] (fun out => [.val rBool (out)]) := ⟨fun out ho => by
 delta g_depot_night_takes at ho
 refine fn fun _ _ => ?_
 refine run 11 ?_
 obtain ⟨x1, hx1, ho⟩ := bnd ho
 refine run 7 ?_
 obtain ⟨x2, hx2, ho⟩ := bnd ho
 refine run 2 ?_
 refine xal (zv := .agg [.int .i64 0, .int .i64 0, .int .i64 0, .int .i64 0]) (es := [vI (0), vI (0), vI (0), vI (0)]) (by kernel_rfl) fun b3 => ?_
 refine xal (zv := .agg [.int .i64 0, .int .i64 0]) (es := [vI (0), vI (0)]) (by kernel_rfl) fun b5 => ?_
 refine run 1 ?_
 refine s_st (st_freezeb (R := rStableCar) (a := x1) 1 [7] (cells_pair (cells_one rfl) (cells_pair (cells_one rfl) (cells_pair (cells_one rfl) (cells_pair (cells_one rfl) cells_unit rfl) rfl) rfl) rfl) rfl rfl ⟨rfl, trivial⟩) ?_
 refine run 1 ?_
 refine s_st (st_freezeb (R := rStableLeave) (a := x2) 0 [8] (cells_pair (cells_one rfl) (cells_pair (cells_one rfl) cells_unit rfl) rfl) rfl rfl ⟨rfl, trivial⟩) ?_
 refine run 2 ?_
 obtain ⟨c9, hc9, ho⟩ := bnd ho
 refine wcx c9 [] (fun t => (.normal, fun _ => ([(6, vB (t))], []))) SEL ?_ fun _ => ?_
 ·exact w hc9
 ·show SRun ..
  cases ho; exact r_ret (ret_of (.inr rfl) (.v rfl .n) (by decide))⟩
theorem g_slices_Reverse_int_int_ok   {s_0 : (List Int)} {out : ((List Int))} (ho : g_slices_Reverse_int_int s_0 = some out) (v_0 : AVal) : FunM ktab 80 [.raw v_0] [(v_0, .row (rInt .i64) (s_0))] [] (fun γ => [(v_0, .row (rInt .i64) (out))]) := by
 refine funm_of (F := Try.f80) (by rfl) (by rfl) (by rfl) (fun C => ?_)
 delta g_slices_Reverse_int_int at ho
 refine run 9 ?_
 obtain ⟨t18, ht18, ho⟩ := bnd ho
 refine wlp ht18 [0] (fun s g => ([(2, vI (s.1)), (3, vI (s.2.1))], [(v_0, .row (rInt .i64) (s.2.2))])) (fun b => (.exit 0, fun g => ([], [(v_0, .row (rInt .i64) (b))]))) [] SEL (pk [0]) NE (fun s11 g12 _ ho => ?_) fun g19 => ?_
 ·refine run 7 ?_
  refine wct ho (fun hq13 ho => ?_) fun hq13 ho => ?_
  ·refine run 3 ?_
   refine r_draw [7, 11] (by kernel_rfl) ?_
   refine run 6 ?_
   obtain ⟨x14, hx14, ho⟩ := bnd ho
   refine run 4 ?_
   obtain ⟨x15, hx15, ho⟩ := bnd ho
   refine run 2 ?_
   obtain ⟨x16, hx16, ho⟩ := bnd ho
   refine run 2 ?_
   obtain ⟨x17, hx17, ho⟩ := bnd ho
   refine run 10 ?_
   cases ho; exact s_nil (lf [] [0])
  ·cases ho; exact r_exit (lf [] [0])
 ·cases ho; exact id (retm_of [0] [] (.inl rfl) .n rfl (by decide))
instance i70 {p_0 p_1 p_2 p_3} : FI ktab 70 (g_depot_night_aside p_0 p_1 p_2 p_3) [.val (rPtr rdepot_night) p_0, .val (rSlice (rInt .i64)) p_1, vI p_2, .val (rFn ktab (Int) (Bool) (fun x => [.val (rInt .i64) (x)]) (fun y => [.val rBool (y)])) p_3] (fun out => [.row (rInt .i64) (out)]) := ⟨fun out ho => by
 delta g_depot_night_aside at ho
 refine fn fun _ _ => ?_
 refine run 2 ?_
 refine s_st (st_nilrow (rInt .i64)) ?_
 refine s_assign (.n rfl) rfl rfl .nilr ?_
 refine run 3 ?_
 refine s_st (st_nilrow (rInt .i64)) ?_
 refine s_assign (.n rfl) rfl rfl .nilr ?_
 refine run 13 ?_
 obtain ⟨t45, ht45, ho⟩ := bnd ho
 refine wlp ht45 [0, 1, 2, 3, 14, 15] (fun s g => ([(9, .raw ((gh g 0))), (10, vI (s.2.1)), (16, vI (s.2.2))], [((gh g 0), .row (rInt .i64) (s.1))])) (fun b => (.exit 0, fun g => ([(9, .raw ((gh g 0))), (10, vI (b.2))], [((gh g 0), .row (rInt .i64) (b.1))]))) [.nilslice] SEL (pk [0]) NE (fun s20 g21 _ ho => ?_) fun g46 => ?_
 ·refine run 5 ?_
  refine wct ho (fun hq25 ho => ?_) fun hq25 ho => ?_
  ·refine run 6 ?_
   obtain ⟨x26, hx26, ho⟩ := bnd ho
   refine run 11 ?_
   obtain ⟨x30, hx30, ho⟩ := bnd ho
   refine run 4 ?_
   refine wbr ho (fun hb31 ho => ?_) fun hb31 ho => ?_
   ·refine run 5 ?_
    refine r_cond (.t rfl) (fun _ => ?_) (fun hq => by cases hq)
    refine run 4 ?_
    cases ho; exact s_nil (lf [(gh g21 0)] [0])
   ·refine run 2 ?_
    obtain ⟨y34, hy34, ho⟩ := bnd ho
    refine s_callv (X := (Int)) (Y := (Bool)) (f := p_3) (x := s20.2.2) hy34 (.g rfl rfl (gf0 hb31)) rfl rfl rfl (.t rfl) (.c (.t rfl) .n) ?_
    show SOps ..
    refine run 2 ?_
    refine wct ho (fun hq35 ho => ?_) fun hq35 ho => ?_
    ·refine run 4 ?_
     cases ho; exact s_nil (lf [(gh g21 0)] [0])
    ·refine run 8 ?_
     refine wct ho (fun hq37 ho => ?_) fun hq37 ho => ?_
     ·refine run 9 ?_
      obtain ⟨x38, hx38, ho⟩ := bnd ho
      refine xap fun v39 => ?_
      refine run 5 ?_
      cases ho; exact s_nil (lf [v39] [0])
     ·refine run 5 ?_
      obtain ⟨x41, hx41, ho⟩ := bnd ho
      refine xap fun v42 => ?_
      refine run 5 ?_
      cases ho; exact s_nil (lf [v42] [0])
  ·cases ho; exact r_exit (lf [(gh g21 0)] [0])
 ·show SRun ..
  refine run 9 ?_
  obtain ⟨x48, hx48, ho⟩ := bnd ho
  refine run 2 ?_
  obtain ⟨x49, hx49, ho⟩ := bnd ho
  refine run 4 ?_
  refine wct ho (fun hq50 ho => ?_) fun hq50 ho => ?_
  ·refine run 5 ?_
   obtain ⟨x51, hx51, ho⟩ := bnd ho
   refine s_sl3o 0 S22 hx51 (.n rfl) rfl rfl (.t rfl) rfl (.t rfl) (.t rfl) rfl ?_
   intro v52
   exact w ho
  ·refine run 6 ?_
   refine s_st (st_freeze 0 [9, 57] rfl rfl ⟨rfl, rfl, trivial⟩) ?_
   obtain ⟨x53, hx53, ho⟩ := bnd ho
   refine run 1 ?_
   refine xcl ho ?_
   intro y54 hy54 ho v55
   show SOps ..
   refine run 5 ?_
   obtain ⟨y57, hy57, ho⟩ := bnd ho
   refine s_callmd [0] [] (fun _ h => by cases h) (g_slices_Reverse_int_int_ok hy57 v55) rfl rfl (by decide) rfl (.n rfl) rfl rfl rfl .f (.c (.t rfl) .n) ?_
   intro g58
   exact w ho⟩
instance i71 {i_0 p_1} : FI ktab 71 (g_depot_night_least_1_1 i_0 p_1) [vI i_0, .val (rPtr (rInt .i64)) p_1] (fun out => [.val rBool (out)]) := ⟨fun out ho => by
 delta g_depot_night_least_1_1 at ho
 refine fn fun _ _ => ?_
 exact w ho⟩
theorem g_depot_night_least_1_body_ok  {rec : Int → Int → (List (Int × Int)) → depot_night → (List Int) → (List Int) → Option ((Int) × (List (Int × Int)))}  (hrec : ∀ {p_0 : Int} {p_1 : Int} {p_2 : (List (Int × Int))} {p_3 : depot_night} {p_4 : (List Int)} {p_5 : (List Int)} {out : ((Int) × (List (Int × Int)))}, rec p_0 p_1 p_2 p_3 p_4 p_5 = some out → ∀ (m_2 : Nat), FunM ktab 68 [.val (rInt .i64) p_0, .val (rInt .i64) p_1, .val (rPtr rRaw) ((.map m_2)), .val (rPtr (rPtr rdepot_night)) p_3, .val (rPtr (rSlice (rInt .i64))) p_4, .val (rPtr (rSlice (rInt .i64))) p_5, .val (rSelfP 68 [.val (rPtr rRaw) ((.map m_2)), .val (rPtr (rPtr rdepot_night)) (p_3), .val (rPtr (rSlice (rInt .i64))) (p_4), .val (rPtr (rSlice (rInt .i64))) (p_5)]) ()] [(.map m_2, .mp (rInt .i64) .i64 (p_2))] [.val (rInt .i64) (out.1)] (fun γ => [(.map m_2, .mp (rInt .i64) .i64 (out.2))])) {p_0 : Int} {p_1 : Int} {p_2 : (List (Int × Int))} {p_3 : depot_night} {p_4 : (List Int)} {p_5 : (List Int)} {out : ((Int) × (List (Int × Int)))} (ho : g_depot_night_least_1_body rec p_0 p_1 p_2 p_3 p_4 p_5 = some out) (m_2 : Nat) : FunM ktab 68 [.val (rInt .i64) p_0, .val (rInt .i64) p_1, .val (rPtr rRaw) ((.map m_2)), .val (rPtr (rPtr rdepot_night)) p_3, .val (rPtr (rSlice (rInt .i64))) p_4, .val (rPtr (rSlice (rInt .i64))) p_5, .val (rSelfP 68 [.val (rPtr rRaw) ((.map m_2)), .val (rPtr (rPtr rdepot_night)) (p_3), .val (rPtr (rSlice (rInt .i64))) (p_4), .val (rPtr (rSlice (rInt .i64))) (p_5)]) ()] [(.map m_2, .mp (rInt .i64) .i64 (p_2))] [.val (rInt .i64) (out.1)] (fun γ => [(.map m_2, .mp (rInt .i64) .i64 (out.2))]) := by
 refine funm_of (F := Try.f68) (by rfl) (by rfl) (by rfl) (fun C => ?_)
 delta g_depot_night_least_1_body at ho
 refine run 8 ?_
 refine s_load UR113 (.n rfl) rfl rfl (.t rfl) ?_
 refine s_st (st_unraw (n := 15) rfl) ?_
 refine run 1 ?_
 refine s_lookok 0 rfl MP113 Z3 rfl (.n rfl) rfl rfl (.t rfl) (.t rfl) ?_
 refine run 10 ?_
 refine wct ho (fun hq1 ho => ?_) fun hq1 ho => ?_
 ·refine run 5 ?_
  cases ho; exact r_ret (retm_of [0] [] (.inr rfl) (.v rfl .n) rfl (by decide))
 ·refine run 16 ?_
  obtain ⟨t166, ht166, ho⟩ := bnd ho
  refine wlp ht166 [1, 2, 3, 4, 5, 6, 7, 26] (fun s g => ([(12, vI (s.1)), (27, vI (s.2.1))], [(.map m_2, .mp (rInt .i64) .i64 (s.2.2))])) (fun b => (.exit 0, fun g => ([(12, vI (b.1))], [(.map m_2, .mp (rInt .i64) .i64 (b.2))]))) [] SEL (pk [0]) NE (fun s110 g111 _ ho => ?_) fun g167 => ?_
  ·refine run 5 ?_
   refine wct ho (fun hq112 ho => ?_) fun hq112 ho => ?_
   ·refine run 13 ?_
    obtain ⟨x124, hx124, ho⟩ := bnd ho
    refine run 4 ?_
    refine wbr ho (fun hb125 ho => ?_) fun hb125 ho => ?_
    ·refine run 32 ?_
     refine r_cond (.t rfl) (fun _ => ?_) (fun hq => by cases hq)
     refine run 4 ?_
     cases ho; exact s_nil (lf [] [0])
    ·refine run 3 ?_
     refine xcl ho ?_
     intro y127 hy127 ho
     show SOps ..
     refine run 3 ?_
     refine wbr ho (fun hb128 ho => ?_) fun hb128 ho => ?_
     ·refine run 25 ?_
      refine r_cond (.t rfl) (fun _ => ?_) (fun hq => by cases hq)
      refine run 4 ?_
      cases ho; exact s_nil (lf [] [0])
     ·refine run 5 ?_
      refine wbr ho (fun hb130 ho => ?_) fun hb130 ho => ?_
      ·refine run 2 ?_
       obtain ⟨x131, hx131, ho⟩ := bnd ho
       refine run 7 ?_
       refine wbr ho (fun hb132 ho => ?_) fun hb132 ho => ?_
       ·refine run 11 ?_
        refine r_cond (.t rfl) (fun _ => ?_) (fun hq => by cases hq)
        refine run 4 ?_
        cases ho; exact s_nil (lf [] [0])
       ·refine run 5 ?_
        refine wbr ho (fun hb134 ho => ?_) fun hb134 ho => ?_
        ·refine run 2 ?_
         refine xcl ho ?_
         intro y135 hy135 ho
         show SOps ..
         refine run 3 ?_
         refine wct ho (fun hq136 ho => ?_) fun hq136 ho => ?_
         ·refine run 4 ?_
          cases ho; exact s_nil (lf [] [0])
         ·refine run 6 ?_
          refine s_mkfn (X := (Int)) (Y := (Bool)) (fun x => [.val (rInt .i64) (x)]) (fun y => [.val rBool (y)]) (f := (fun x => g_depot_night_least_1_1 x p_0)) (fun x y hf => i71.ok _ hf) rfl (.n rfl) rfl rfl .n (.c (.t rfl) .n) ?_
          refine xcl ho ?_
          intro y137 hy137 ho v138
          show SOps ..
          refine run 1 ?_
          refine s_loadself rfl UR114 (.n rfl) rfl rfl (.t rfl) ?_
          refine run 2 ?_
          obtain ⟨x140, hx140, ho⟩ := bnd ho
          refine run 4 ?_
          obtain ⟨y141, hy141, ho⟩ := bnd ho
          refine s_callcd (ps := []) (es := [vI ((bOr .i64 p_0 x140)), vI ((w64 (p_1 + 1)))]) (cs := [.val (rPtr rRaw) ((.map m_2)), .val (rPtr (rPtr rdepot_night)) (p_3), .val (rPtr (rSlice (rInt .i64))) (p_4), .val (rPtr (rSlice (rInt .i64))) (p_5), .val (rSelfP 68 [.val (rPtr rRaw) ((.map m_2)), .val (rPtr (rPtr rdepot_night)) (p_3), .val (rPtr (rSlice (rInt .i64))) (p_4), .val (rPtr (rSlice (rInt .i64))) (p_5)]) ()]) [1] [0] (fun _ h => by cases h <;> exact ⟨by kernel_rfl, by kernel_rfl⟩) (hrec hy141 m_2) rfl rfl (by decide) rfl (.n rfl) rfl rfl rfl (.t rfl) (.c (.t rfl) (.c (.t rfl) .n)) ?_
          intro g142
          show SOps ..
          refine run 7 ?_
          cases ho; exact s_nil (lf [] [0])
        ·refine run 6 ?_
         refine r_cond (.t rfl) (fun hq => by cases hq) (fun _ => ?_)
         refine run 6 ?_
         refine s_mkfn (X := (Int)) (Y := (Bool)) (fun x => [.val (rInt .i64) (x)]) (fun y => [.val rBool (y)]) (f := (fun x => g_depot_night_least_1_1 x p_0)) (fun x y hf => i71.ok _ hf) rfl (.n rfl) rfl rfl .n (.c (.t rfl) .n) ?_
         refine xcl ho ?_
         intro y144 hy144 ho v145
         show SOps ..
         refine run 1 ?_
         refine s_loadself rfl UR114 (.n rfl) rfl rfl (.t rfl) ?_
         refine run 2 ?_
         obtain ⟨x147, hx147, ho⟩ := bnd ho
         refine run 4 ?_
         obtain ⟨y148, hy148, ho⟩ := bnd ho
         refine s_callcd (ps := []) (es := [vI ((bOr .i64 p_0 x147)), vI ((w64 (p_1 + 1)))]) (cs := [.val (rPtr rRaw) ((.map m_2)), .val (rPtr (rPtr rdepot_night)) (p_3), .val (rPtr (rSlice (rInt .i64))) (p_4), .val (rPtr (rSlice (rInt .i64))) (p_5), .val (rSelfP 68 [.val (rPtr rRaw) ((.map m_2)), .val (rPtr (rPtr rdepot_night)) (p_3), .val (rPtr (rSlice (rInt .i64))) (p_4), .val (rPtr (rSlice (rInt .i64))) (p_5)]) ()]) [1] [0] (fun _ h => by cases h <;> exact ⟨by kernel_rfl, by kernel_rfl⟩) (hrec hy148 m_2) rfl rfl (by decide) rfl (.n rfl) rfl rfl rfl (.t rfl) (.c (.t rfl) (.c (.t rfl) .n)) ?_
         intro g149
         show SOps ..
         refine run 7 ?_
         cases ho; exact s_nil (lf [] [0])
      ·refine run 14 ?_
       refine wbr ho (fun hb150 ho => ?_) fun hb150 ho => ?_
       ·refine run 2 ?_
        refine xcl ho ?_
        intro y151 hy151 ho
        show SOps ..
        refine run 3 ?_
        refine wct ho (fun hq152 ho => ?_) fun hq152 ho => ?_
        ·refine run 4 ?_
         cases ho; exact s_nil (lf [] [0])
        ·refine run 6 ?_
         refine s_mkfn (X := (Int)) (Y := (Bool)) (fun x => [.val (rInt .i64) (x)]) (fun y => [.val rBool (y)]) (f := (fun x => g_depot_night_least_1_1 x p_0)) (fun x y hf => i71.ok _ hf) rfl (.n rfl) rfl rfl .n (.c (.t rfl) .n) ?_
         refine xcl ho ?_
         intro y153 hy153 ho v154
         show SOps ..
         refine run 1 ?_
         refine s_loadself rfl UR114 (.n rfl) rfl rfl (.t rfl) ?_
         refine run 2 ?_
         obtain ⟨x156, hx156, ho⟩ := bnd ho
         refine run 4 ?_
         obtain ⟨y157, hy157, ho⟩ := bnd ho
         refine s_callcd (ps := []) (es := [vI ((bOr .i64 p_0 x156)), vI ((w64 (p_1 + 1)))]) (cs := [.val (rPtr rRaw) ((.map m_2)), .val (rPtr (rPtr rdepot_night)) (p_3), .val (rPtr (rSlice (rInt .i64))) (p_4), .val (rPtr (rSlice (rInt .i64))) (p_5), .val (rSelfP 68 [.val (rPtr rRaw) ((.map m_2)), .val (rPtr (rPtr rdepot_night)) (p_3), .val (rPtr (rSlice (rInt .i64))) (p_4), .val (rPtr (rSlice (rInt .i64))) (p_5)]) ()]) [1] [0] (fun _ h => by cases h <;> exact ⟨by kernel_rfl, by kernel_rfl⟩) (hrec hy157 m_2) rfl rfl (by decide) rfl (.n rfl) rfl rfl rfl (.t rfl) (.c (.t rfl) (.c (.t rfl) .n)) ?_
         intro g158
         show SOps ..
         refine run 7 ?_
         cases ho; exact s_nil (lf [] [0])
       ·refine run 6 ?_
        refine r_cond (.t rfl) (fun hq => by cases hq) (fun _ => ?_)
        refine run 6 ?_
        refine s_mkfn (X := (Int)) (Y := (Bool)) (fun x => [.val (rInt .i64) (x)]) (fun y => [.val rBool (y)]) (f := (fun x => g_depot_night_least_1_1 x p_0)) (fun x y hf => i71.ok _ hf) rfl (.n rfl) rfl rfl .n (.c (.t rfl) .n) ?_
        refine xcl ho ?_
        intro y160 hy160 ho v161
        show SOps ..
        refine run 1 ?_
        refine s_loadself rfl UR114 (.n rfl) rfl rfl (.t rfl) ?_
        refine run 2 ?_
        obtain ⟨x163, hx163, ho⟩ := bnd ho
        refine run 4 ?_
        obtain ⟨y164, hy164, ho⟩ := bnd ho
        refine s_callcd (ps := []) (es := [vI ((bOr .i64 p_0 x163)), vI ((w64 (p_1 + 1)))]) (cs := [.val (rPtr rRaw) ((.map m_2)), .val (rPtr (rPtr rdepot_night)) (p_3), .val (rPtr (rSlice (rInt .i64))) (p_4), .val (rPtr (rSlice (rInt .i64))) (p_5), .val (rSelfP 68 [.val (rPtr rRaw) ((.map m_2)), .val (rPtr (rPtr rdepot_night)) (p_3), .val (rPtr (rSlice (rInt .i64))) (p_4), .val (rPtr (rSlice (rInt .i64))) (p_5)]) ()]) [1] [0] (fun _ h => by cases h <;> exact ⟨by kernel_rfl, by kernel_rfl⟩) (hrec hy164 m_2) rfl rfl (by decide) rfl (.n rfl) rfl rfl rfl (.t rfl) (.c (.t rfl) (.c (.t rfl) .n)) ?_
        intro g165
        show SOps ..
        refine run 7 ?_
        cases ho; exact s_nil (lf [] [0])
   ·cases ho; exact r_exit (lf [] [0])
  ·show SRun ..
   refine run 2 ?_
   refine s_load UR113 (.n rfl) rfl rfl (.t rfl) ?_
   refine s_st (st_unraw (n := 85) rfl) ?_
   refine run 3 ?_
   refine s_mapset 0 MP113 (.inl rfl) rfl (.n rfl) rfl (.t rfl) (.t rfl) (.t rfl) rfl ?_
   refine run 3 ?_
   refine s_load UR113 (.n rfl) rfl rfl (.t rfl) ?_
   refine s_st (st_unraw (n := 89) rfl) ?_
   refine run 1 ?_
   refine s_look 0 rfl MP113 Z3 rfl (.n rfl) rfl rfl (.t rfl) (.t rfl) ?_
   refine run 2 ?_
   cases ho; exact r_ret (retm_of [0] [] (.inr rfl) (.v rfl .n) rfl (by decide))
theorem g_depot_night_least_1_ok   {k : Nat} {p_0 : Int} {p_1 : Int} {p_2 : (List (Int × Int))} {p_3 : depot_night} {p_4 : (List Int)} {p_5 : (List Int)} {out : ((Int) × (List (Int × Int)))} (ho : g_depot_night_least_1 k p_0 p_1 p_2 p_3 p_4 p_5 = some out) (m_2 : Nat) : FunM ktab 68 [.val (rInt .i64) p_0, .val (rInt .i64) p_1, .val (rPtr rRaw) ((.map m_2)), .val (rPtr (rPtr rdepot_night)) p_3, .val (rPtr (rSlice (rInt .i64))) p_4, .val (rPtr (rSlice (rInt .i64))) p_5, .val (rSelfP 68 [.val (rPtr rRaw) ((.map m_2)), .val (rPtr (rPtr rdepot_night)) (p_3), .val (rPtr (rSlice (rInt .i64))) (p_4), .val (rPtr (rSlice (rInt .i64))) (p_5)]) ()] [(.map m_2, .mp (rInt .i64) .i64 (p_2))] [.val (rInt .i64) (out.1)] (fun γ => [(.map m_2, .mp (rInt .i64) .i64 (out.2))]) := by
 induction k generalizing p_0 p_1 p_2 p_3 p_4 p_5 out m_2 with
 | zero => cases ho
 | succ k ih => exact g_depot_night_least_1_body_ok (fun h m_2 => ih h m_2) ho m_2
instance i45 {n_0 tracks_1 fixed_2} : FI ktab 45 (g_depot_night_least n_0 tracks_1 fixed_2) [.val (rPtr rdepot_night) n_0, .val (rSlice (rInt .i64)) tracks_1, .val (rSlice (rInt .i64)) fixed_2] (fun out => [.val (rInt .i64) (out)]) := ⟨fun out ho => by
 delta g_depot_night_least at ho
 refine fn fun _ _ => ?_
 refine run 9 ?_
 refine s_mkmap (rInt .i64) MP113 rfl (.n rfl) rfl rfl ?_
 intro b1
 refine run 5 ?_
 obtain ⟨x3, hx3, ho⟩ := bnd ho
 refine run 2 ?_
 refine s_mapset 0 MP113 (.inr rfl) rfl (.n rfl) rfl (.t rfl) (.t rfl) (.i (by decide) (by decide)) rfl ?_
 refine run 1 ?_
 refine xal (zv := .nilmap) (es := [.raw (.nilmap)]) (by kernel_rfl) fun b4 => ?_
 refine s_st (st_rawmap (n := 17) rfl) ?_
 refine s_storeb 0 (UR113).sz rfl (by exact Nat.le_of_ble_eq_true rfl) (.n rfl) rfl rfl (.t rfl) (.t rfl) rfl rfl ?_
 refine s_st (st_freezeb (R := rRaw) (a := (.map b1)) 0 [7] (cells_one rfl) rfl rfl ⟨rfl, trivial⟩) ?_
 refine run 3 ?_
 refine xal (zv := .nilfunc) (es := [.raw (.nilfunc)]) (by kernel_rfl) fun b6 => ?_
 refine run 3 ?_
 refine s_mkclo (.n rfl) rfl rfl .n (.c (.t rfl) (.c (.t rfl) (.c (.t rfl) (.c (.t rfl) (.c (.t rfl) .n))))) ?_
 refine s_storeb 0 (UR114).sz rfl (by exact Nat.le_of_ble_eq_true rfl) (.n rfl) rfl rfl (.t rfl) (.t rfl) rfl rfl ?_
 refine s_st (st_freezeg 0 [8] (self_box (g := 68) (cs := [.val (rPtr rRaw) ((.map b1)), .val (rPtr (rPtr rdepot_night)) (n_0), .val (rPtr (rSlice (rInt .i64))) (fixed_2), .val (rPtr (rSlice (rInt .i64))) (tracks_1)]) rfl) rfl rfl ⟨rfl, trivial⟩) ?_
 refine run 3 ?_
 refine s_loadself rfl UR114 (.n rfl) rfl rfl (.t rfl) ?_
 obtain ⟨y8, hy8, ho⟩ := bnd ho
 refine s_callcd (ps := []) (es := [vI (0), vI (0)]) (cs := [.val (rPtr rRaw) ((.map b1)), .val (rPtr (rPtr rdepot_night)) (n_0), .val (rPtr (rSlice (rInt .i64))) (fixed_2), .val (rPtr (rSlice (rInt .i64))) (tracks_1), .val (rSelfP 68 [.val (rPtr rRaw) ((.map b1)), .val (rPtr (rPtr rdepot_night)) (n_0), .val (rPtr (rSlice (rInt .i64))) (fixed_2), .val (rPtr (rSlice (rInt .i64))) (tracks_1)]) ()]) [0] [] (fun _ h => by cases h) (g_depot_night_least_1_ok hy8 b1) rfl rfl (by decide) rfl (.n rfl) rfl rfl rfl (.t rfl) (.c (.i (by decide) (by decide)) (.c (.i (by decide) (by decide)) .n)) ?_
 intro g9
 exact w ho⟩
instance i46 {l_0 better_1} : FI ktab 46 (g_depot_best_api_StablePlan l_0 better_1) [.val (rSlice rStablePlanN1) l_0, .val (rFn ktab (StablePlanN1 × StablePlanN1) (Bool) (fun x => [.val rStablePlanN1 (x.1), .val rStablePlanN1 (x.2)]) (fun y => [.val rBool (y)])) better_1] (fun out => [.val rStablePlanN1 (out)]) := ⟨fun out ho => by
 delta g_depot_best_api_StablePlan at ho
 refine fn fun _ _ => ?_
 refine run 2 ?_
 refine xal (zv := .agg [.nilslice, .nilslice, .int .i64 0]) (es := [.val (rSlice (rInt .i64)) ([]), .val rNil (()), vI (0)]) (by kernel_rfl) fun b1 => ?_
 refine run 4 ?_
 obtain ⟨x3, hx3, ho⟩ := bnd ho
 refine s_idx Sq141 hx3 (.n rfl) rfl rfl (.t rfl) (.i (by decide) (by decide)) ?_
 refine s_load Uq140 (.n rfl) rfl rfl (.t rfl) ?_
 refine xal (zv := .agg [.nilslice, .nilslice, .int .i64 0]) (es := [.val (rSlice (rInt .i64)) ([]), .val rNil (()), vI (0)]) (by kernel_rfl) fun b4 => ?_
 refine s_storebs 0 Uq140 rfl (cells_pair (cells_one rfl) (cells_pair (cells_one rfl) (cells_pair (cells_one rfl) cells_unit rfl) rfl) rfl) (by rfl) (.n rfl) rfl rfl (.t rfl) (.t rfl) (by rfl) ?_
 refine run 5 ?_
 obtain ⟨x6, hx6, ho⟩ := bnd ho
 refine s_slO Sq141 hx6 (.n rfl) rfl rfl (.t rfl) (.s (.i (by decide) (by decide))) .n ?_
 refine s_len Sq141 (.n rfl) rfl rfl rfl rfl rfl (.t rfl) ?_
 refine run 3 ?_
 obtain ⟨t27, ht27, ho⟩ := bnd ho
 refine wlp ht27 [1, 4, 5, 12, 13] (fun s g => ([(14, vI (s.1))], [(.ptr b4 0, .box [.val (rSlice (rInt .i64)) (s.2.1), .val rNil (s.2.2.1), vI (s.2.2.2)]), (.ptr b1 0, .box [.val (rSlice (rInt .i64)) ([]), .val rNil (()), vI (0)])])) (fun b => (.exit 0, fun g => ([], [(.ptr b4 0, .box [.val (rSlice (rInt .i64)) (b.1), .val rNil (b.2.1), vI (b.2.2)]), (.ptr b1 0, .box [.val (rSlice (rInt .i64)) ([]), .val rNil (()), vI (0)])]))) [] SEL (pk [0, 1]) NE (fun s19 g20 _ ho => ?_) fun g28 => ?_
 ·refine run 5 ?_
  refine wct ho (fun hq21 ho => ?_) fun hq21 ho => ?_
  ·refine run 5 ?_
   obtain ⟨x22, hx22, ho⟩ := bnd ho
   refine s_idx Sq141 hx22 (.n rfl) rfl rfl (.t rfl) (.t rfl) ?_
   refine s_load Uq140 (.n rfl) rfl rfl (.t rfl) ?_
   refine xal (zv := .agg [.nilslice, .nilslice, .int .i64 0]) (es := [.val (rSlice (rInt .i64)) ([]), .val rNil (()), vI (0)]) (by kernel_rfl) fun b23 => ?_
   refine s_storebs 0 Uq140 rfl (cells_pair (cells_one rfl) (cells_pair (cells_one rfl) (cells_pair (cells_one rfl) cells_unit rfl) rfl) rfl) (by rfl) (.n rfl) rfl rfl (.t rfl) (.t rfl) (by rfl) ?_
   refine s_st (st_freezeb (R := rStablePlanN1) (a := x22) 0 [7] (cells_pair (cells_one rfl) (cells_pair (cells_one rfl) (cells_pair (cells_one rfl) cells_unit rfl) rfl) rfl) rfl rfl ⟨rfl, trivial⟩) ?_
   refine run 4 ?_
   refine s_load Uq140 (.n rfl) rfl rfl (.t rfl) ?_
   refine s_loadbs (R := rStablePlanN1) (a := (s19.2.1, s19.2.2.1, s19.2.2.2, ())) 0 (fun _ h => by cases h <;> rfl) Uq140 (cells_pair (cells_one rfl) (cells_pair (cells_one rfl) (cells_pair (cells_one rfl) cells_unit rfl) rfl) rfl) (.n rfl) rfl rfl (.t rfl) rfl ?_
   obtain ⟨y25, hy25, ho⟩ := bnd ho
   refine s_callv (X := (StablePlanN1 × StablePlanN1)) (Y := (Bool)) (f := better_1) (x := (x22, (s19.2.1, s19.2.2.1, s19.2.2.2, ()))) hy25 (.n rfl) rfl rfl rfl (.t rfl) (.c (.t rfl) (.c (.t rfl) .n)) ?_
   show SOps ..
   refine run 1 ?_
   refine wct ho (fun hq26 ho => ?_) fun hq26 ho => ?_
   ·refine run 1 ?_
    refine s_load Uq140 (.n rfl) rfl rfl (.t rfl) ?_
    refine s_storebs 0 Uq140 rfl (cells_pair (cells_one rfl) (cells_pair (cells_one rfl) (cells_pair (cells_one rfl) cells_unit rfl) rfl) rfl) (by rfl) (.n rfl) rfl rfl (.t rfl) (.t rfl) (by rfl) ?_
    refine run 4 ?_
    cases ho; exact s_nil (lf [] [0, 1])
   ·refine run 4 ?_
    cases ho; exact s_nil (lf [] [0, 1])
  ·cases ho; exact r_exit (lf [] [0, 1])
 ·show SRun ..
  refine run 2 ?_
  refine s_loadbs (R := rStablePlanN1) (a := (t27.1, t27.2.1, t27.2.2, ())) 0 (fun _ h => by cases h <;> rfl) Uq140 (cells_pair (cells_one rfl) (cells_pair (cells_one rfl) (cells_pair (cells_one rfl) cells_unit rfl) rfl) rfl) (.n rfl) rfl rfl (.t rfl) rfl ?_
  refine s_storebs 1 Uq140 rfl (cells_pair (cells_one rfl) (cells_pair (cells_one rfl) (cells_pair (cells_one rfl) cells_unit rfl) rfl) rfl) (by rfl) (.n rfl) rfl rfl (.t rfl) (.t rfl) (by rfl) ?_
  refine run 1 ?_
  cases ho; exact r_ret (ret_of (.inr rfl) (.b 1 Uq140 (cells_pair (cells_one rfl) (cells_pair (cells_one rfl) (cells_pair (cells_one rfl) cells_unit rfl) rfl) rfl) rfl rfl .n) (by decide))⟩
instance i47 {a_0 b_1} : FI ktab 47 (g_depot_Night_1 a_0 b_1) [.val rStablePlanN1 a_0, .val rStablePlanN1 b_1] (fun out => [.val rBool (out)]) := ⟨fun out ho => by
 delta g_depot_Night_1 at ho
 refine fn fun _ _ => ?_
 refine run 8 ?_
 refine s_fa Fq140_2 fk_StablePlanN1_2 (by decide) (.n rfl) rfl rfl (.t rfl) ?_
 refine run 1 ?_
 refine s_fa Fq140_2 fk_StablePlanN1_2 (by decide) (.n rfl) rfl rfl (.t rfl) ?_
 exact w ho⟩
instance i19 {p_0 p_1 p_2} : FI ktab 19 (g_depot_Night p_0 p_1 p_2) [.val (rSlice rStableTrack) p_0, .val (rSlice rStableCar) p_1, .val (rSlice rStableLeave) p_2] (fun out => [.val rStablePlan (out.1), .val (rInt .i64) (out.2)]) := ⟨fun out ho => by
 delta g_depot_Night at ho
 refine fn fun _ _ => ?_
 refine run 2 ?_
 refine xal (zv := .agg [.nilslice, .nilslice, .int .i64 0]) (es := [.val (rSlice (rInt .i64)) ([]), .val (rSlice (rInt .i64)) ([]), vI (0)]) (by kernel_rfl) fun b1 => ?_
 refine run 2 ?_
 refine r_scope (by exact ret_goto) ?_
 refine run 7 ?_
 refine xal (zv := .nilptr) (es := [.raw (.nilptr)]) (by kernel_rfl) fun b3 => ?_
 refine run 1 ?_
 refine s_st (st_freezeb (R := (rPtr rdepot_night)) (a := ((p_0, p_1, p_2, ()) : depot_night)) 0 [8] (cells_one rfl) rfl rfl ⟨rfl, trivial⟩) ?_
 refine run 5 ?_
 refine xcl ho ?_
 intro y5 hy5 ho
 show SOps ..
 refine run 2 ?_
 refine wct ho (fun hq6 ho => ?_) fun hq6 ho => ?_
 ·refine run 6 ?_
  cases ho; exact r_ret (ret_of (.inr rfl) (.b 0 U36 (cells_pair (cells_one rfl) (cells_pair (cells_one rfl) (cells_pair (cells_one rfl) cells_unit rfl) rfl) rfl) rfl rfl (.v rfl .n)) (by decide))
 ·refine run 5 ?_
  refine xcl ho ?_
  intro y7 hy7 ho
  show SOps ..
  refine run 2 ?_
  refine wct ho (fun hq8 ho => ?_) fun hq8 ho => ?_
  ·refine run 6 ?_
   cases ho; exact r_ret (ret_of (.inr rfl) (.b 0 U36 (cells_pair (cells_one rfl) (cells_pair (cells_one rfl) (cells_pair (cells_one rfl) cells_unit rfl) rfl) rfl) rfl rfl (.v rfl .n)) (by decide))
  ·refine run 3 ?_
   refine s_build (R := rStablePlanN1) Bq140 (.n rfl) rfl rfl rfl (.z (fun _ => znil) (.z (fun _ => znilN) (.p (.i (by decide) (by decide)) rfl (.n rfl)))) ?_
   refine s_bso (R := rStablePlanN1) Sq141 Yq140 (.n rfl) rfl rfl (.c (.t rfl) .n) rfl (by decide) ?_
   intro v9
   refine s_st (st_nilrow rStablePlanN1) ?_
   refine xal (zv := .nilslice) (es := [.raw .nilslice]) (by kernel_rfl) fun b12 => ?_
   refine s_storebo 0 2 (Uq141).sz rfl rfl (by exact Nat.le_of_ble_eq_true rfl) (.n rfl) rfl rfl (.t rfl) (.t rfl) (by rfl) ?_
   refine run 7 ?_
   refine xcl ho ?_
   intro y14 hy14 ho
   show SOps ..
   refine run 2 ?_
   obtain ⟨t49, ht49, ho⟩ := bnd ho
   refine r_range (σ := ((List StablePlanN1))) (τ := ((List StablePlanN1))) (X := ((List Int))) (ins := (fun x => [.val (rSlice (rInt .i64)) (x)])) (altO (fun s g => [(.ptr b12 0, .box [.raw ((gh g 0))]), (.ptr b1 0, .box [.val (rSlice (rInt .i64)) ([]), .val (rSlice (rInt .i64)) ([]), vI (0)]), ((gh g 0), .row rStablePlanN1 (s))]) (fun t g => [(.ptr b12 0, .box [.raw ((gh g 0))]), (.ptr b1 0, .box [.val (rSlice (rInt .i64)) ([]), .val (rSlice (rInt .i64)) ([]), vI (0)]), ((gh g 0), .row rStablePlanN1 (t))])) (fun _ => some 0) (s0 := [(([], (), 1048576, ()) : StablePlanN1)]) (r := t49) [v9] [0, 3, 2] [] rfl (.t rfl) rfl rfl (by decide) (fun _ => rfl) (fun yv K hcb γ => g_depot_night_tracked_1_ok hcb ht49 γ) ?_ ?_
   ·clear ho ht49
    intro s36 g37 x15 r50 ho C
    refine run 2 ?_
    refine s_nil (fun fr h s => And.intro rfl (Exists.intro _ (Exists.intro _ (And.intro s (fun C => ?_)))))
    refine run 2 ?_
    refine r_draw [0, 1000009] (by kernel_rfl) ?_
    refine s_loadb 0 (fun _ h => by cases h <;> rfl) (Uq141).agg rfl (.n rfl) rfl rfl (.t rfl) rfl ?_
    refine run 3 ?_
    obtain ⟨y39, hy39, ho⟩ := bnd ho
    refine s_calll (i45.ok _ hy39) (.v flat_int .n) rfl (.n rfl) rfl rfl rfl .f (.c (.o (.t rfl)) (.c (.o (.t rfl)) (.c (.o .nil) .n))) ?_
    show SOps ..
    refine s_build (R := rStablePlanN1) Bq140 (.n rfl) rfl rfl rfl (.p (.t rfl) rfl (.z (fun _ => znilN) (.p (.t rfl) rfl (.n rfl)))) ?_
    refine s_bs (R := rStablePlanN1) Sq141 Yq140 (.n rfl) rfl rfl (.c (.t rfl) .n) rfl (by decide) ?_
    obtain ⟨x40, hx40, ho⟩ := bnd ho
    refine s_app 2 Sq141 Yq140 hx40 (.n rfl) rfl rfl rfl rfl rfl (.t rfl) rfl (.t rfl) rfl (hra := roffs 0 rfl rfl rfl (by decide)) ?_
    intro v41
    refine s_storebo 1 0 (Uq141).sz rfl rfl (by exact Nat.le_of_ble_eq_true rfl) (.n rfl) rfl rfl (.t rfl) (.t rfl) (by rfl) ?_
    refine run 3 ?_
    refine s_loadb 1 (fun _ h => by cases h <;> rfl) (Uq141).agg rfl (.n rfl) rfl rfl (.t rfl) rfl ?_
    refine s_st (st_freezec 0 0 (q := 0) [38, 39] rfl rfl rfl rfl (by rfl) ⟨rfl, rfl, trivial⟩) ?_
    obtain ⟨y42, hy42, ho⟩ := bnd ho
    refine s_call (pre := []) (post := []) (vs := []) (i46.ok _ hy42) rfl (.n rfl) rfl rfl rfl .f (.c (.t rfl) (.c (.fv (opd_fn (fun x y hf => i47.ok _ hf) rfl)) .n)) ?_
    show SOps ..
    refine s_bso (R := rStablePlanN1) Sq141 Yq140 (.n rfl) rfl rfl (.c (.t rfl) .n) rfl (by decide) ?_
    intro v43
    refine s_storebo 1 0 (Uq141).sz rfl rfl (by exact Nat.le_of_ble_eq_true rfl) (.n rfl) rfl rfl (.t rfl) (.t rfl) (by rfl) ?_
    refine run 3 ?_
    refine s_loadb 1 (fun _ h => by cases h <;> rfl) (Uq141).agg rfl (.n rfl) rfl rfl (.t rfl) rfl ?_
    obtain ⟨x45, hx45, ho⟩ := bnd ho
    refine s_idxo 0 Sq141 hx45 (.n rfl) rfl rfl (.t rfl) rfl (.i (by decide) (by decide)) ?_
    refine s_faelt Fq140_2 (by decide) (.n rfl) rfl rfl (.t rfl) ?_
    refine s_loado 0 (fun _ h => by cases h <;> rfl) U3 fk_StablePlanN1_2 (idx_inv hx45).2.2.2 (.n rfl) rfl rfl (.t rfl) rfl ?_
    refine run 2 ?_
    refine wct ho (fun hq46 ho => ?_) fun hq46 ho => ?_
    ·cases ho; exact r_exit (fun fr h s => And.intro rfl (Exists.intro [v43] (s.pick [1, 2, 0] trivial rfl (by decide))))
    ·cases ho; exact r_skip (fun fr h s => And.intro rfl (Exists.intro [v43] (s.pick [1, 2, 0] trivial rfl (by decide))))
   ·clear ht49
    rcases t49 with b51 | b52
    ·have ho := alt_l ho
     intro g53
     refine st_wk (Γ' := [(0, .val (rSlice rStableTrack) (p_0)), (1, .val (rSlice rStableCar) (p_1)), (2, .val (rSlice rStableLeave) (p_2)), (6, .raw (.ptr b1 0)), (7, vI (0)), (8, .val (rPtr (rPtr rdepot_night)) (((p_0, p_1, p_2, ()) : depot_night))), (9, .raw (.ptr b12 0)), (13, .val (rSlice rStableTrack) (p_0)), (14, .val (rSlice rStableCar) (p_1)), (15, .val (rSlice rStableLeave) (p_2)), (16, .val rdepot_night (((p_0, p_1, p_2, ()) : depot_night))), (17, .val (rPtr rdepot_night) (((p_0, p_1, p_2, ()) : depot_night))), (18, .val (rPtr rdepot_night) (((p_0, p_1, p_2, ()) : depot_night))), (19, vB (y5)), (20, vB ((!y5))), (22, .val (rPtr rdepot_night) (((p_0, p_1, p_2, ()) : depot_night))), (23, vB (y7)), (24, vB ((!y7))), (26, .val rStablePlanN1 ((([], (), 1048576, ()) : StablePlanN1))), (27, .raw v9), (28, .val (rPtr rdepot_night) (((p_0, p_1, p_2, ()) : depot_night))), (29, .val (rClo 65 [] [.val (rPtr (rPtr rdepot_night)) (y14)]) ())]) (L' := [(.ptr b12 0, .box [.raw ((gh g53 0))]), (.ptr b1 0, .box [.val (rSlice (rInt .i64)) ([]), .val (rSlice (rInt .i64)) ([]), vI (0)]), ((gh g53 0), .row rStablePlanN1 (b51))]) [0, 1, 2] ⟨rfl, rfl, rfl, rfl, rfl, rfl, rfl, rfl, rfl, rfl, rfl, rfl, rfl, rfl, rfl, rfl, rfl, rfl, rfl, rfl, rfl, rfl, trivial⟩ rfl (by decide) ?_
     show ∀ fr h, St _ [(0, .val (rSlice rStableTrack) (p_0)), (1, .val (rSlice rStableCar) (p_1)), (2, .val (rSlice rStableLeave) (p_2)), (6, .raw (.ptr b1 0)), (7, vI (0)), (8, .val (rPtr (rPtr rdepot_night)) (((p_0, p_1, p_2, ()) : depot_night))), (9, .raw (.ptr b12 0)), (13, .val (rSlice rStableTrack) (p_0)), (14, .val (rSlice rStableCar) (p_1)), (15, .val (rSlice rStableLeave) (p_2)), (16, .val rdepot_night (((p_0, p_1, p_2, ()) : depot_night))), (17, .val (rPtr rdepot_night) (((p_0, p_1, p_2, ()) : depot_night))), (18, .val (rPtr rdepot_night) (((p_0, p_1, p_2, ()) : depot_night))), (19, vB (y5)), (20, vB ((!y5))), (22, .val (rPtr rdepot_night) (((p_0, p_1, p_2, ()) : depot_night))), (23, vB (y7)), (24, vB ((!y7))), (26, .val rStablePlanN1 ((([], (), 1048576, ()) : StablePlanN1))), (27, .raw v9), (28, .val (rPtr rdepot_night) (((p_0, p_1, p_2, ()) : depot_night))), (29, .val (rClo 65 [] [.val (rPtr (rPtr rdepot_night)) (y14)]) ())] [(.ptr b12 0, .box [.raw ((gh g53 0))]), (.ptr b1 0, .box [.val (rSlice (rInt .i64)) ([]), .val (rSlice (rInt .i64)) ([]), vI (0)]), ((gh g53 0), .row rStablePlanN1 (b51))] fr h → _
     show SRun ..
     refine run 2 ?_
     refine s_loadb 0 (fun _ h => by cases h <;> rfl) (Uq141).agg rfl (.n rfl) rfl rfl (.t rfl) rfl ?_
     obtain ⟨x55, hx55, ho⟩ := bnd ho
     refine s_idxo 2 Sq141 hx55 (.n rfl) rfl rfl (.t rfl) rfl (.i (by decide) (by decide)) ?_
     refine s_loado 2 (fun _ h => by cases h <;> rfl) Uq140 FOk.self (idx_inv hx55).2.2.2 (.n rfl) rfl rfl (.t rfl) rfl ?_
     refine xal (zv := .agg [.nilslice, .nilslice, .int .i64 0]) (es := [.val (rSlice (rInt .i64)) ([]), .val (rSlice (rInt .i64)) ([]), vI (0)]) (by kernel_rfl) fun b56 => ?_
     refine s_storebs 0 Uq140 rfl (cells_pair (cells_one rfl) (cells_pair (cells_one rfl) (cells_pair (cells_one rfl) cells_unit rfl) rfl) rfl) (by rfl) (.n rfl) rfl rfl (.t rfl) (.t rfl) (by rfl) ?_
     refine s_st (st_nilcell (q := 1) 0 rfl rfl rfl) ?_
     refine s_st (st_nilrow (rInt .i64)) ?_
     refine run 8 ?_
     refine wct ho (fun hq59 ho => ?_) fun hq59 ho => ?_
     ·refine run 6 ?_
      cases ho; exact r_ret (ret_of (.inr rfl) (.b 3 U36 (cells_pair (cells_one rfl) (cells_pair (cells_one rfl) (cells_pair (cells_one rfl) cells_unit rfl) rfl) rfl) rfl rfl (.v rfl .n)) (by decide))
     ·refine run 9 ?_
      obtain ⟨t303, ht303, ho⟩ := bnd ho
      refine wlp ht303 [2, 6, 8, 11, 55] (fun s g => ([(56, vI (s.1))], [(.ptr b56 0, .box [.val (rSlice (rInt .i64)) (x55.1), .raw ((gh g 0)), vI (x55.2.2.1)]), (.ptr b1 0, .box [.val (rSlice (rInt .i64)) ([]), .val (rSlice (rInt .i64)) ([]), vI (0)]), ((gh g 0), .row (rInt .i64) (s.2))])) (fun b => (.exit 2, fun g => ([], [(.ptr b56 0, .box [.val (rSlice (rInt .i64)) (x55.1), .raw ((gh g 0)), vI (x55.2.2.1)]), (.ptr b1 0, .box [.val (rSlice (rInt .i64)) ([]), .val (rSlice (rInt .i64)) ([]), vI (0)]), ((gh g 0), .row (rInt .i64) (b))]))) [.nilslice] SEL (pk [1, 3, 0]) NE (fun s218 g219 _ ho => ?_) fun g304 => ?_
      ·refine run 5 ?_
       refine wct ho (fun hq223 ho => ?_) fun hq223 ho => ?_
       ·refine run 10 ?_
        obtain ⟨t298, ht298, ho⟩ := bnd ho
        refine wlp ht298 [2, 6, 8, 11, 55, 56, 59] (fun s g => ([(60, vI (s.1))], [(.ptr b56 0, .box [.val (rSlice (rInt .i64)) (x55.1), .raw ((gh g 0)), vI (x55.2.2.1)]), (.ptr b1 0, .box [.val (rSlice (rInt .i64)) ([]), .val (rSlice (rInt .i64)) ([]), vI (0)]), ((gh g 0), .row (rInt .i64) (s.2))])) (fun b => (.exit 4, fun g => ([], [(.ptr b56 0, .box [.val (rSlice (rInt .i64)) (x55.1), .raw ((gh g 0)), vI (x55.2.2.1)]), (.ptr b1 0, .box [.val (rSlice (rInt .i64)) ([]), .val (rSlice (rInt .i64)) ([]), vI (0)]), ((gh g 0), .row (rInt .i64) (b))]))) [(gh g219 0)] SEL (pk [0, 1, 2]) NE (fun s268 g269 _ ho => ?_) fun g299 => ?_
        ·refine run 5 ?_
         refine wct ho (fun hq273 ho => ?_) fun hq273 ho => ?_
         ·refine run 9 ?_
          refine r_draw [1, 8, 10, 17, 1000011] (by kernel_rfl) ?_
          refine run 3 ?_
          refine xcl ho ?_
          intro y282 hy282 ho
          show SOps ..
          refine run 2 ?_
          refine wbr ho (fun hb283 ho => ?_) fun hb283 ho => ?_
          ·refine run 5 ?_
           refine xcl ho ?_
           intro y284 hy284 ho v285
           show SOps ..
           refine run 2 ?_
           obtain ⟨x287, hx287, ho⟩ := bnd ho
           refine s_app 0 S22 Y3 hx287 (.g rfl rfl (gt1 hb283)) rfl rfl rfl rfl rfl (.t rfl) rfl (.t rfl) rfl (hra := roffs 1 rfl rfl rfl (by decide)) ?_
           intro v288
           refine xcl ho ?_
           intro y289 hy289 ho
           show SOps ..
           refine run 5 ?_
           refine wct ho (fun hq290 ho => ?_) fun hq290 ho => ?_
           ·refine run 6 ?_
            obtain ⟨x291, hx291, ho⟩ := bnd ho
            refine xap fun v292 => ?_
            refine run 1 ?_
            refine s_storebo 2 0 (U22).sz rfl rfl (by exact Nat.le_of_ble_eq_true rfl) (.n rfl) rfl rfl (.t rfl) (.t rfl) (by rfl) ?_
            refine run 1 ?_
            cases ho; exact r_exit (lf [v292] [2, 3, 0])
           ·refine run 4 ?_
            cases ho; exact s_nil (lf [(gh g269 0)] [1, 2, 3])
          ·refine run 15 ?_
           refine r_cond (.t rfl) (fun hq => by cases hq) (fun _ => ?_)
           refine run 4 ?_
           cases ho; exact s_nil (lf [(gh g269 0)] [0, 1, 2])
         ·cases ho; exact r_exit (lf [(gh g269 0)] [0, 1, 2])
        ·show SRun ..
         refine run 3 ?_
         cases ho; exact s_nil (lf [(gh g299 0)] [0, 1, 2])
       ·cases ho; exact r_exit (lf [(gh g219 0)] [0, 1, 2])
      ·show SRun ..
       refine run 2 ?_
       refine s_st (st_freezec 2 0 (q := 1) [] rfl rfl rfl rfl (by rfl) trivial) ?_
       refine s_loadbs (R := rStablePlan) (a := (x55.1, t303, x55.2.2.1, ())) 0 (fun _ h => by cases h <;> rfl) U36 (cells_pair (cells_one rfl) (cells_pair (cells_one rfl) (cells_pair (cells_one rfl) cells_unit rfl) rfl) rfl) (.n rfl) rfl rfl (.t rfl) rfl ?_
       refine run 3 ?_
       cases ho; exact r_ret (ret_of (.inr rfl) (.b 1 U36 (cells_pair (cells_one rfl) (cells_pair (cells_one rfl) (cells_pair (cells_one rfl) cells_unit rfl) rfl) rfl) rfl rfl (.v rfl .n)) (by decide))
    ·have ho := alt_r ho
     intro g306
     refine st_wk (Γ' := [(0, .val (rSlice rStableTrack) (p_0)), (1, .val (rSlice rStableCar) (p_1)), (2, .val (rSlice rStableLeave) (p_2)), (6, .raw (.ptr b1 0)), (7, vI (0)), (8, .val (rPtr (rPtr rdepot_night)) (((p_0, p_1, p_2, ()) : depot_night))), (9, .raw (.ptr b12 0)), (13, .val (rSlice rStableTrack) (p_0)), (14, .val (rSlice rStableCar) (p_1)), (15, .val (rSlice rStableLeave) (p_2)), (16, .val rdepot_night (((p_0, p_1, p_2, ()) : depot_night))), (17, .val (rPtr rdepot_night) (((p_0, p_1, p_2, ()) : depot_night))), (18, .val (rPtr rdepot_night) (((p_0, p_1, p_2, ()) : depot_night))), (19, vB (y5)), (20, vB ((!y5))), (22, .val (rPtr rdepot_night) (((p_0, p_1, p_2, ()) : depot_night))), (23, vB (y7)), (24, vB ((!y7))), (26, .val rStablePlanN1 ((([], (), 1048576, ()) : StablePlanN1))), (27, .raw v9), (28, .val (rPtr rdepot_night) (((p_0, p_1, p_2, ()) : depot_night))), (29, .val (rClo 65 [] [.val (rPtr (rPtr rdepot_night)) (y14)]) ())]) (L' := [(.ptr b12 0, .box [.raw ((gh g306 0))]), (.ptr b1 0, .box [.val (rSlice (rInt .i64)) ([]), .val (rSlice (rInt .i64)) ([]), vI (0)]), ((gh g306 0), .row rStablePlanN1 (b52))]) [0, 1, 2] ⟨rfl, rfl, rfl, rfl, rfl, rfl, rfl, rfl, rfl, rfl, rfl, rfl, rfl, rfl, rfl, rfl, rfl, rfl, rfl, rfl, rfl, rfl, trivial⟩ rfl (by decide) ?_
     show ∀ fr h, St _ [(0, .val (rSlice rStableTrack) (p_0)), (1, .val (rSlice rStableCar) (p_1)), (2, .val (rSlice rStableLeave) (p_2)), (6, .raw (.ptr b1 0)), (7, vI (0)), (8, .val (rPtr (rPtr rdepot_night)) (((p_0, p_1, p_2, ()) : depot_night))), (9, .raw (.ptr b12 0)), (13, .val (rSlice rStableTrack) (p_0)), (14, .val (rSlice rStableCar) (p_1)), (15, .val (rSlice rStableLeave) (p_2)), (16, .val rdepot_night (((p_0, p_1, p_2, ()) : depot_night))), (17, .val (rPtr rdepot_night) (((p_0, p_1, p_2, ()) : depot_night))), (18, .val (rPtr rdepot_night) (((p_0, p_1, p_2, ()) : depot_night))), (19, vB (y5)), (20, vB ((!y5))), (22, .val (rPtr rdepot_night) (((p_0, p_1, p_2, ()) : depot_night))), (23, vB (y7)), (24, vB ((!y7))), (26, .val rStablePlanN1 ((([], (), 1048576, ()) : StablePlanN1))), (27, .raw v9), (28, .val (rPtr rdepot_night) (((p_0, p_1, p_2, ()) : depot_night))), (29, .val (rClo 65 [] [.val (rPtr (rPtr rdepot_night)) (y14)]) ())] [(.ptr b12 0, .box [.raw ((gh g306 0))]), (.ptr b1 0, .box [.val (rSlice (rInt .i64)) ([]), .val (rSlice (rInt .i64)) ([]), vI (0)]), ((gh g306 0), .row rStablePlanN1 (b52))] fr h → _
     show SRun ..
     refine run 2 ?_
     refine s_loadb 0 (fun _ h => by cases h <;> rfl) (Uq141).agg rfl (.n rfl) rfl rfl (.t rfl) rfl ?_
     obtain ⟨x308, hx308, ho⟩ := bnd ho
     refine s_idxo 2 Sq141 hx308 (.n rfl) rfl rfl (.t rfl) rfl (.i (by decide) (by decide)) ?_
     refine s_loado 2 (fun _ h => by cases h <;> rfl) Uq140 FOk.self (idx_inv hx308).2.2.2 (.n rfl) rfl rfl (.t rfl) rfl ?_
     refine xal (zv := .agg [.nilslice, .nilslice, .int .i64 0]) (es := [.val (rSlice (rInt .i64)) ([]), .val (rSlice (rInt .i64)) ([]), vI (0)]) (by kernel_rfl) fun b309 => ?_
     refine s_storebs 0 Uq140 rfl (cells_pair (cells_one rfl) (cells_pair (cells_one rfl) (cells_pair (cells_one rfl) cells_unit rfl) rfl) rfl) (by rfl) (.n rfl) rfl rfl (.t rfl) (.t rfl) (by rfl) ?_
     refine s_st (st_nilcell (q := 1) 0 rfl rfl rfl) ?_
     refine s_st (st_nilrow (rInt .i64)) ?_
     refine run 8 ?_
     refine wct ho (fun hq312 ho => ?_) fun hq312 ho => ?_
     ·refine run 6 ?_
      cases ho; exact r_ret (ret_of (.inr rfl) (.b 3 U36 (cells_pair (cells_one rfl) (cells_pair (cells_one rfl) (cells_pair (cells_one rfl) cells_unit rfl) rfl) rfl) rfl rfl (.v rfl .n)) (by decide))
     ·refine run 9 ?_
      obtain ⟨t556, ht556, ho⟩ := bnd ho
      refine wlp ht556 [2, 6, 8, 11, 55] (fun s g => ([(56, vI (s.1))], [(.ptr b309 0, .box [.val (rSlice (rInt .i64)) (x308.1), .raw ((gh g 0)), vI (x308.2.2.1)]), (.ptr b1 0, .box [.val (rSlice (rInt .i64)) ([]), .val (rSlice (rInt .i64)) ([]), vI (0)]), ((gh g 0), .row (rInt .i64) (s.2))])) (fun b => (.exit 2, fun g => ([], [(.ptr b309 0, .box [.val (rSlice (rInt .i64)) (x308.1), .raw ((gh g 0)), vI (x308.2.2.1)]), (.ptr b1 0, .box [.val (rSlice (rInt .i64)) ([]), .val (rSlice (rInt .i64)) ([]), vI (0)]), ((gh g 0), .row (rInt .i64) (b))]))) [.nilslice] SEL (pk [1, 3, 0]) NE (fun s471 g472 _ ho => ?_) fun g557 => ?_
      ·refine run 5 ?_
       refine wct ho (fun hq476 ho => ?_) fun hq476 ho => ?_
       ·refine run 10 ?_
        obtain ⟨t551, ht551, ho⟩ := bnd ho
        refine wlp ht551 [2, 6, 8, 11, 55, 56, 59] (fun s g => ([(60, vI (s.1))], [(.ptr b309 0, .box [.val (rSlice (rInt .i64)) (x308.1), .raw ((gh g 0)), vI (x308.2.2.1)]), (.ptr b1 0, .box [.val (rSlice (rInt .i64)) ([]), .val (rSlice (rInt .i64)) ([]), vI (0)]), ((gh g 0), .row (rInt .i64) (s.2))])) (fun b => (.exit 4, fun g => ([], [(.ptr b309 0, .box [.val (rSlice (rInt .i64)) (x308.1), .raw ((gh g 0)), vI (x308.2.2.1)]), (.ptr b1 0, .box [.val (rSlice (rInt .i64)) ([]), .val (rSlice (rInt .i64)) ([]), vI (0)]), ((gh g 0), .row (rInt .i64) (b))]))) [(gh g472 0)] SEL (pk [0, 1, 2]) NE (fun s521 g522 _ ho => ?_) fun g552 => ?_
        ·refine run 5 ?_
         refine wct ho (fun hq526 ho => ?_) fun hq526 ho => ?_
         ·refine run 9 ?_
          refine r_draw [1, 8, 10, 17, 1000011] (by kernel_rfl) ?_
          refine run 3 ?_
          refine xcl ho ?_
          intro y535 hy535 ho
          show SOps ..
          refine run 2 ?_
          refine wbr ho (fun hb536 ho => ?_) fun hb536 ho => ?_
          ·refine run 5 ?_
           refine xcl ho ?_
           intro y537 hy537 ho v538
           show SOps ..
           refine run 2 ?_
           obtain ⟨x540, hx540, ho⟩ := bnd ho
           refine s_app 0 S22 Y3 hx540 (.g rfl rfl (gt1 hb536)) rfl rfl rfl rfl rfl (.t rfl) rfl (.t rfl) rfl (hra := roffs 1 rfl rfl rfl (by decide)) ?_
           intro v541
           refine xcl ho ?_
           intro y542 hy542 ho
           show SOps ..
           refine run 5 ?_
           refine wct ho (fun hq543 ho => ?_) fun hq543 ho => ?_
           ·refine run 6 ?_
            obtain ⟨x544, hx544, ho⟩ := bnd ho
            refine xap fun v545 => ?_
            refine run 1 ?_
            refine s_storebo 2 0 (U22).sz rfl rfl (by exact Nat.le_of_ble_eq_true rfl) (.n rfl) rfl rfl (.t rfl) (.t rfl) (by rfl) ?_
            refine run 1 ?_
            cases ho; exact r_exit (lf [v545] [2, 3, 0])
           ·refine run 4 ?_
            cases ho; exact s_nil (lf [(gh g522 0)] [1, 2, 3])
          ·refine run 15 ?_
           refine r_cond (.t rfl) (fun hq => by cases hq) (fun _ => ?_)
           refine run 4 ?_
           cases ho; exact s_nil (lf [(gh g522 0)] [0, 1, 2])
         ·cases ho; exact r_exit (lf [(gh g522 0)] [0, 1, 2])
        ·show SRun ..
         refine run 3 ?_
         cases ho; exact s_nil (lf [(gh g552 0)] [0, 1, 2])
       ·cases ho; exact r_exit (lf [(gh g472 0)] [0, 1, 2])
      ·show SRun ..
       refine run 2 ?_
       refine s_st (st_freezec 2 0 (q := 1) [] rfl rfl rfl rfl (by rfl) trivial) ?_
       refine s_loadbs (R := rStablePlan) (a := (x308.1, t556, x308.2.2.1, ())) 0 (fun _ h => by cases h <;> rfl) U36 (cells_pair (cells_one rfl) (cells_pair (cells_one rfl) (cells_pair (cells_one rfl) cells_unit rfl) rfl) rfl) (.n rfl) rfl rfl (.t rfl) rfl ?_
       refine run 3 ?_
       cases ho; exact r_ret (ret_of (.inr rfl) (.b 1 U36 (cells_pair (cells_one rfl) (cells_pair (cells_one rfl) (cells_pair (cells_one rfl) cells_unit rfl) rfl) rfl) rfl rfl (.v rfl .n)) (by decide))⟩
instance i40 {x_0 low_1 high_2} : FI ktab 40 (g_ref09_in x_0 low_1 high_2) [vI x_0, vI low_1, vI high_2] (fun out => [.val rBool (out)]) := ⟨fun out ho => by
 delta g_ref09_in at ho
 refine fn fun _ _ => ?_
 refine run 5 ?_
 obtain ⟨c2, hc2, ho⟩ := bnd ho
 refine wcx c2 [] (fun t => (.normal, fun _ => ([(6, vB (t))], []))) SEL ?_ fun _ => ?_
 ·exact w hc2
 ·show SRun ..
  cases ho; exact r_ret (ret_of (.inr rfl) (.v rfl .n) (by decide))⟩
instance i41 {l_0 through_1 i_2 j_3} : FI ktab 41 (g_ref09_InWay l_0 through_1 i_2 j_3) [.val (rSlice (rInt .i64)) l_0, vB through_1, vI i_2, vI j_3] (fun out => [.val rBool (out)]) := ⟨fun out ho => by
 delta g_ref09_InWay at ho
 refine fn fun _ _ => ?_
 exact w ho⟩
instance i18 {t_0 c_1 l_2 most_3} : FI ktab 18 (g_law09_few t_0 c_1 l_2 most_3) [.val (rSlice rStableTrack) t_0, .val (rSlice rStableCar) c_1, .val (rSlice rStableLeave) l_2, vI most_3] (fun out => [.val rBool (out)]) := ⟨fun out ho => by
 delta g_law09_few at ho
 refine fn fun _ _ => ?_
 refine run 5 ?_
 obtain ⟨c5, hc5, ho⟩ := bnd ho
 refine wcx c5 [] (fun t => (.normal, fun _ => ([(8, vB (t))], []))) SEL ?_ fun _ => ?_
 ·exact w hc5
 ·show SRun ..
  cases ho; exact r_ret (ret_of (.inr rfl) (.v rfl .n) (by decide))⟩
instance i20 {p_0 p_1 p_2} : FI ktab 20 (g_ref09_Night p_0 p_1 p_2) [.val (rSlice rStableTrack) p_0, .val (rSlice rStableCar) p_1, .val (rSlice rStableLeave) p_2] (fun out => [.val rBool (out)]) := ⟨fun out ho => by
 delta g_ref09_Night at ho
 refine fn fun _ _ => ?_
 refine run 6 ?_
 obtain ⟨c4, hc4, ho⟩ := bnd ho
 refine wcx c4 [0, 1, 2] (fun t => (.normal, fun _ => ([(26, vB (t))], []))) SEL ?_ fun _ => ?_
 ·exact w hc4
 ·show SRun ..
  refine wct ho (fun hq8 ho => ?_) fun hq8 ho => ?_
  ·exact w ho
  ·refine run 7 ?_
   obtain ⟨t19, ht19, ho⟩ := bnd ho
   refine wlp ht19 [0, 1, 2] (fun s g => ([(7, vI (s))], [])) (altX (fun b => (.exit 0, fun g => ([], []))) (fun b => (.ret, fun g => ([(6, vB (b))], [])))) [] SEL (pk []) NE (fun s13 g14 _ ho => ?_) fun g20 => ?_
   ·exact w ho
   ·rcases t19 with b21 | b22
    ·have ho := alt_l ho
     show SRun ..
     refine run 6 ?_
     obtain ⟨t139, ht139, ho⟩ := bnd ho
     refine wlp ht139 [1, 2] (fun s g => ([(8, vI (s))], [])) (altX (fun b => (.exit 2, fun g => ([], []))) (fun b => (.ret, fun g => ([(6, vB (b))], [])))) [] SEL (pk []) NE (fun s80 g81 _ ho => ?_) fun g140 => ?_
     ·refine run 8 ?_
      refine wct ho (fun hq82 ho => ?_) fun hq82 ho => ?_
      ·refine run 7 ?_
       obtain ⟨x83, hx83, ho⟩ := bnd ho
       refine run 4 ?_
       obtain ⟨x84, hx84, ho⟩ := bnd ho
       refine run 2 ?_
       refine xal (zv := .agg [.int .i64 0, .int .i64 0, .int .i64 0, .int .i64 0]) (es := [vI (0), vI (0), vI (0), vI (0)]) (by kernel_rfl) fun b85 => ?_
       refine xal (zv := .agg [.int .i64 0, .int .i64 0]) (es := [vI (0), vI (0)]) (by kernel_rfl) fun b87 => ?_
       refine run 1 ?_
       refine s_st (st_freezeb (R := rStableCar) (a := x83) 1 [9] (cells_pair (cells_one rfl) (cells_pair (cells_one rfl) (cells_pair (cells_one rfl) (cells_pair (cells_one rfl) cells_unit rfl) rfl) rfl) rfl) rfl rfl ⟨rfl, trivial⟩) ?_
       refine run 1 ?_
       refine s_st (st_freezeb (R := rStableLeave) (a := x84) 0 [10] (cells_pair (cells_one rfl) (cells_pair (cells_one rfl) cells_unit rfl) rfl) rfl rfl ⟨rfl, trivial⟩) ?_
       refine run 6 ?_
       refine xcl ho ?_
       intro y99 hy99 ho
       show SOps ..
       refine run 2 ?_
       refine wbr ho (fun hb100 ho => ?_) fun hb100 ho => ?_
       ·refine run 33 ?_
        refine r_cond (.t rfl) (fun _ => ?_) (fun hq => by cases hq)
        exact w ho
       ·refine run 2 ?_
        refine xcl ho ?_
        intro y102 hy102 ho
        show SOps ..
        refine run 3 ?_
        refine wbr ho (fun hb103 ho => ?_) fun hb103 ho => ?_
        ·refine run 27 ?_
         refine r_cond (.t rfl) (fun _ => ?_) (fun hq => by cases hq)
         exact w ho
        ·refine run 2 ?_
         refine xcl ho ?_
         intro y105 hy105 ho
         show SOps ..
         refine run 3 ?_
         refine wbr ho (fun hb106 ho => ?_) fun hb106 ho => ?_
         ·refine run 21 ?_
          refine r_cond (.t rfl) (fun _ => ?_) (fun hq => by cases hq)
          exact w ho
         ·refine run 2 ?_
          refine xcl ho ?_
          intro y108 hy108 ho
          show SOps ..
          refine run 3 ?_
          refine wbr ho (fun hb109 ho => ?_) fun hb109 ho => ?_
          ·refine run 15 ?_
           refine r_cond (.t rfl) (fun _ => ?_) (fun hq => by cases hq)
           exact w ho
          ·refine run 3 ?_
           refine wbr ho (fun hb111 ho => ?_) fun hb111 ho => ?_
           ·refine run 5 ?_
            obtain ⟨x112, hx112, ho⟩ := bnd ho
            refine run 7 ?_
            refine wct ho (fun hq113 ho => ?_) fun hq113 ho => ?_
            ·exact w ho
            ·refine run 5 ?_
             refine xcl ho ?_
             intro y119 hy119 ho
             show SOps ..
             refine run 2 ?_
             refine wbr ho (fun hb120 ho => ?_) fun hb120 ho => ?_
             ·refine run 21 ?_
              refine r_cond (.t rfl) (fun _ => ?_) (fun hq => by cases hq)
              exact w ho
             ·refine run 2 ?_
              refine xcl ho ?_
              intro y122 hy122 ho
              show SOps ..
              refine run 3 ?_
              refine wbr ho (fun hb123 ho => ?_) fun hb123 ho => ?_
              ·refine run 15 ?_
               refine r_cond (.t rfl) (fun _ => ?_) (fun hq => by cases hq)
               exact w ho
              ·exact w ho
           ·refine run 12 ?_
            refine r_cond (.t rfl) (fun hq => by cases hq) (fun _ => ?_)
            refine run 5 ?_
            refine xcl ho ?_
            intro y132 hy132 ho
            show SOps ..
            refine run 2 ?_
            refine wbr ho (fun hb133 ho => ?_) fun hb133 ho => ?_
            ·refine run 21 ?_
             refine r_cond (.t rfl) (fun _ => ?_) (fun hq => by cases hq)
             exact w ho
            ·refine run 2 ?_
             refine xcl ho ?_
             intro y135 hy135 ho
             show SOps ..
             refine run 3 ?_
             refine wbr ho (fun hb136 ho => ?_) fun hb136 ho => ?_
             ·refine run 15 ?_
              refine r_cond (.t rfl) (fun _ => ?_) (fun hq => by cases hq)
              exact w ho
             ·refine run 15 ?_
              refine r_cond (.t rfl) (fun hq => by cases hq) (fun _ => ?_)
              exact w ho
      ·cases ho; exact r_exit (lf [] [])
     ·rcases t139 with b141 | b142
      ·have ho := alt_l ho
       show SRun ..
       exact w ho
      ·have ho := alt_r ho
       cases ho; exact id (ret_of (.inr rfl) (.v rfl .n) (by decide))
    ·have ho := alt_r ho
     cases ho; exact id (ret_of (.inr rfl) (.v rfl .n) (by decide))⟩
instance i21 {a_0 b_1} : FI ktab 21 (g_law09_same a_0 b_1) [.val rStablePlan a_0, .val rStablePlan b_1] (fun out => [.val rBool (out)]) := ⟨fun out ho => by
 delta g_law09_same at ho
 refine fn fun _ _ => ?_
 refine run 7 ?_
 obtain ⟨c5, hc5, ho⟩ := bnd ho
 refine wcx c5 [] (fun t => (.normal, fun _ => ([(4, vB (t))], []))) SEL ?_ fun _ => ?_
 ·exact w hc5
 ·show SRun ..
  cases ho; exact r_ret (ret_of (.inr rfl) (.v rfl .n) (by decide))⟩
instance i33 {p_0 p_1 p_2 p_3} : FI ktab 33 (g_ref09_Moves p_0 p_1 p_2 p_3) [.val (rSlice rStableTrack) p_0, .val (rSlice rStableCar) p_1, .val (rSlice rStableLeave) p_2, .val rStablePlan p_3] (fun out => [.val (rInt .i64) (out.1), .val rBool (out.2)]) := ⟨fun out ho => by
 delta g_ref09_Moves at ho
 refine fn fun _ _ => ?_
 refine run 14 ?_
 obtain ⟨c6, hc6, ho⟩ := bnd ho
 refine wcx c6 [0, 1, 2, 7, 10] (fun t => (.normal, fun _ => ([(48, vB (t))], []))) SEL ?_ fun _ => ?_
 ·exact w hc6
 ·show SRun ..
  refine wct ho (fun hq12 ho => ?_) fun hq12 ho => ?_
  ·exact w ho
  ·refine run 5 ?_
   obtain ⟨x13, hx13, ho⟩ := bnd ho
   refine xmk fun v14 => ?_
   refine run 5 ?_
   obtain ⟨x16, hx16, ho⟩ := bnd ho
   refine xmk fun v17 => ?_
   refine run 8 ?_
   obtain ⟨t168, ht168, ho⟩ := bnd ho
   refine wlp ht168 [0, 1, 2, 7, 10, 11, 12] (fun s g => ([(13, vI (s.1))], [(v17, .row rBool (s.2.1)), (v14, .row (rInt .i64) (s.2.2))])) (altX (fun b => (.exit 0, fun g => ([], []))) (fun b => (.ret, fun g => ([(8, vI (b.1)), (9, vB (b.2.1))], [])))) [] SEL (pk [0, 1]) NE (fun s117 g118 _ ho => ?_) fun g169 => ?_
   ·refine run 7 ?_
    refine wct ho (fun hq119 ho => ?_) fun hq119 ho => ?_
    ·refine run 9 ?_
     obtain ⟨x128, hx128, ho⟩ := bnd ho
     refine run 5 ?_
     refine xcl ho ?_
     intro y129 hy129 ho
     show SOps ..
     refine run 2 ?_
     refine wbr ho (fun hb130 ho => ?_) fun hb130 ho => ?_
     ·refine run 21 ?_
      refine r_cond (.t rfl) (fun _ => ?_) (fun hq => by cases hq)
      exact w ho
     ·refine run 3 ?_
      obtain ⟨x132, hx132, ho⟩ := bnd ho
      refine run 4 ?_
      refine xcl ho ?_
      intro y133 hy133 ho
      show SOps ..
      refine run 3 ?_
      refine wbr ho (fun hb134 ho => ?_) fun hb134 ho => ?_
      ·refine run 10 ?_
       refine r_cond (.t rfl) (fun _ => ?_) (fun hq => by cases hq)
       exact w ho
      ·refine run 4 ?_
       obtain ⟨x136, hx136, ho⟩ := bnd ho
       refine run 2 ?_
       obtain ⟨x137, hx137, ho⟩ := bnd ho
       refine run 4 ?_
       refine wct ho (fun hq138 ho => ?_) fun hq138 ho => ?_
       ·exact w ho
       ·refine run 7 ?_
        obtain ⟨x139, hx139, ho⟩ := bnd ho
        refine run 2 ?_
        obtain ⟨x140, hx140, ho⟩ := bnd ho
        refine run 10 ?_
        obtain ⟨x141, hx141, ho⟩ := bnd ho
        refine run 2 ?_
        obtain ⟨x142, hx142, ho⟩ := bnd ho
        refine run 2 ?_
        refine xal (zv := .agg [.int .i64 0, .int .i64 0]) (es := [vI (0), vI (0)]) (by kernel_rfl) fun b143 => ?_
        refine run 1 ?_
        refine s_st (st_freezeb (R := rStableLeave) (a := x142) 0 [14] (cells_pair (cells_one rfl) (cells_pair (cells_one rfl) cells_unit rfl) rfl) rfl rfl ⟨rfl, trivial⟩) ?_
        refine run 7 ?_
        obtain ⟨x150, hx150, ho⟩ := bnd ho
        refine run 5 ?_
        refine wbr ho (fun hb151 ho => ?_) fun hb151 ho => ?_
        ·refine run 20 ?_
         refine r_cond (.t rfl) (fun _ => ?_) (fun hq => by cases hq)
         exact w ho
        ·refine run 4 ?_
         obtain ⟨x153, hx153, ho⟩ := bnd ho
         refine run 6 ?_
         refine wbr ho (fun hb154 ho => ?_) fun hb154 ho => ?_
         ·refine run 10 ?_
          refine r_cond (.t rfl) (fun _ => ?_) (fun hq => by cases hq)
          exact w ho
         ·refine run 4 ?_
          obtain ⟨x156, hx156, ho⟩ := bnd ho
          refine run 6 ?_
          refine wct ho (fun hq157 ho => ?_) fun hq157 ho => ?_
          ·exact w ho
          ·refine run 2 ?_
           refine r_draw [13] (by kernel_rfl) ?_
           refine run 4 ?_
           obtain ⟨x158, hx158, ho⟩ := bnd ho
           refine run 6 ?_
           obtain ⟨x159, hx159, ho⟩ := bnd ho
           refine run 2 ?_
           obtain ⟨x160, hx160, ho⟩ := bnd ho
           refine run 4 ?_
           obtain ⟨x161, hx161, ho⟩ := bnd ho
           refine run 4 ?_
           obtain ⟨x162, hx162, ho⟩ := bnd ho
           refine run 4 ?_
           refine r_draw [7] (by kernel_rfl) ?_
           refine run 4 ?_
           obtain ⟨x163, hx163, ho⟩ := bnd ho
           refine run 2 ?_
           obtain ⟨x164, hx164, ho⟩ := bnd ho
           refine run 6 ?_
           obtain ⟨x165, hx165, ho⟩ := bnd ho
           refine run 2 ?_
           obtain ⟨x166, hx166, ho⟩ := bnd ho
           refine run 5 ?_
           refine wct ho (fun hq167 ho => ?_) fun hq167 ho => ?_
           ·exact w ho
           ·refine run 5 ?_
            cases ho; exact s_nil (lf [] [0, 1])
    ·cases ho; exact r_exit (lf [] [])
   ·rcases t168 with b170 | b171
    ·have ho := alt_l ho
     show SRun ..
     refine run 10 ?_
     obtain ⟨t244, ht244, ho⟩ := bnd ho
     refine wlp ht244 [0, 7, 10] (fun s g => ([(15, vI (s.1)), (16, vI (s.2))], [])) (fun b => (.exit 2, fun g => ([(15, vI (b))], []))) [] SEL (pk []) NE (fun s207 g208 _ ho => ?_) fun g245 => ?_
     ·refine run 7 ?_
      refine wct ho (fun hq209 ho => ?_) fun hq209 ho => ?_
      ·refine run 8 ?_
       obtain ⟨t242, ht242, ho⟩ := bnd ho
       refine wlp ht242 [0, 7, 10, 16] (fun s g => ([(15, vI (s.1)), (17, vI (s.2))], [])) (fun b => (.exit 4, fun g => ([(15, vI (b))], []))) [] SEL (pk []) NE (fun s225 g226 _ ho => ?_) fun g243 => ?_
       ·refine run 7 ?_
        refine wct ho (fun hq227 ho => ?_) fun hq227 ho => ?_
        ·refine run 8 ?_
         obtain ⟨x234, hx234, ho⟩ := bnd ho
         refine run 5 ?_
         obtain ⟨x235, hx235, ho⟩ := bnd ho
         refine run 4 ?_
         refine wbr ho (fun hb236 ho => ?_) fun hb236 ho => ?_
         ·exact w ho
         ·refine run 16 ?_
          refine r_cond (.t rfl) (fun hq => by cases hq) (fun _ => ?_)
          exact w ho
        ·cases ho; exact r_exit (lf [] [])
       ·show SRun ..
        exact w ho
      ·cases ho; exact r_exit (lf [] [])
     ·show SRun ..
      exact w ho
    ·have ho := alt_r ho
     cases ho; exact id (ret_of (.inr rfl) (.v rfl (.v rfl .n)) (by decide))⟩
instance i73 {l_0 x_1} : FI ktab 73 (g_ref09_has l_0 x_1) [.val (rSlice (rInt .i64)) l_0, vI x_1] (fun out => [.val rBool (out)]) := ⟨fun out ho => by
 delta g_ref09_has at ho
 refine fn fun _ _ => ?_
 refine run 10 ?_
 obtain ⟨t9, ht9, ho⟩ := bnd ho
 refine wlp ht9 [0, 1] (fun s g => ([(5, vI (s))], [])) (altX (fun b => (.exit 0, fun g => ([], []))) (fun b => (.ret, fun g => ([(4, vB (b))], [])))) [] SEL (pk []) NE (fun s4 g5 _ ho => ?_) fun g10 => ?_
 ·exact w ho
 ·rcases t9 with b11 | b12
  ·have ho := alt_l ho
   show SRun ..
   exact w ho
  ·have ho := alt_r ho
   cases ho; exact id (ret_of (.inr rfl) (.v rfl .n) (by decide))⟩
instance i50 {n_0 bound_1 different_2} : FI ktab 50 (g_ref09_lists n_0 bound_1 different_2) [vI n_0, vI bound_1, vB different_2] (fun out => [.row (rSlice (rInt .i64)) (out)]) := ⟨fun out ho => by
 delta g_ref09_lists at ho
 refine fn fun _ _ => ?_
 refine run 2 ?_
 refine s_st (st_nilrow (rSlice (rInt .i64))) ?_
 refine s_assign (.n rfl) rfl rfl .nilr ?_
 refine run 3 ?_
 refine s_bso (R := (rSlice (rInt .i64))) S81 Y22 (.n rfl) rfl rfl (.c .nil .n) rfl (by decide) ?_
 intro v2
 refine run 8 ?_
 obtain ⟨t301, ht301, ho⟩ := bnd ho
 refine wlp ht301 [0, 1, 2] (fun s g => ([(7, .raw ((gh g 0))), (8, vI (s.2))], [((gh g 0), .row (rSlice (rInt .i64)) (s.1))])) (fun b => (.exit 0, fun g => ([(7, .raw ((gh g 0)))], [((gh g 0), .row (rSlice (rInt .i64)) (b))]))) [v2] SEL (pk [0]) NE (fun s150 g151 _ ho => ?_) fun g302 => ?_
 ·refine run 7 ?_
  refine wct ho (fun hq155 ho => ?_) fun hq155 ho => ?_
  ·refine run 5 ?_
   refine s_st (st_nilrow (rSlice (rInt .i64))) ?_
   refine s_assign (.n rfl) rfl rfl .nilr ?_
   refine run 7 ?_
   obtain ⟨t296, ht296, ho⟩ := bnd ho
   refine wlp ht296 [0, 1, 2, 7, 8] (fun s g => ([(9, .raw ((gh g 0))), (10, vI (s.2))], [((gh g151 0), .row (rSlice (rInt .i64)) (s150.1)), ((gh g 0), .row (rSlice (rInt .i64)) (s.1))])) (fun b => (.exit 2, fun g => ([(9, .raw ((gh g 0)))], [((gh g 0), .row (rSlice (rInt .i64)) (b))]))) [.nilslice] SEL (pk [1, 0]) NE (fun s224 g225 _ ho => ?_) fun g297 => ?_
   ·refine run 8 ?_
    refine wct ho (fun hq229 ho => ?_) fun hq229 ho => ?_
    ·refine run 8 ?_
     obtain ⟨t291, ht291, ho⟩ := bnd ho
     refine wlp ht291 [0, 1, 2, 7, 8, 10] (fun s g => ([(9, .raw ((gh g 0))), (11, vI (s.2))], [((gh g151 0), .row (rSlice (rInt .i64)) (s150.1)), ((gh g 0), .row (rSlice (rInt .i64)) (s.1))])) (fun b => (.exit 4, fun g => ([(9, .raw ((gh g 0)))], [((gh g151 0), .row (rSlice (rInt .i64)) (s150.1)), ((gh g 0), .row (rSlice (rInt .i64)) (b))]))) [(gh g225 0)] SEL (pk [0, 1]) NE (fun s257 g258 _ ho => ?_) fun g292 => ?_
     ·refine run 7 ?_
      refine wct ho (fun hq262 ho => ?_) fun hq262 ho => ?_
      ·refine run 8 ?_
       refine wbr ho (fun hb266 ho => ?_) fun hb266 ho => ?_
       ·refine run 9 ?_
        refine r_cond (.t rfl) (fun _ => ?_) (fun hq => by cases hq)
        refine run 4 ?_
        obtain ⟨x268, hx268, ho⟩ := bnd ho
        refine run 2 ?_
        refine s_st (st_nilrow (rInt .i64)) ?_
        obtain ⟨x270, hx270, ho⟩ := bnd ho
        refine s_app 0 S22 Y3 hx270 (.n rfl) rfl rfl rfl rfl rfl .nilr rfl (.t rfl) rfl ?_
        intro v271
        refine run 2 ?_
        obtain ⟨x272, hx272, ho⟩ := bnd ho
        refine xap fun v273 => ?_
        refine s_st (st_freeze 0 [48] rfl rfl ⟨rfl, trivial⟩) ?_
        refine run 1 ?_
        obtain ⟨x274, hx274, ho⟩ := bnd ho
        refine xap fun v275 => ?_
        refine run 6 ?_
        cases ho; exact s_nil (lf [v275] [1, 0])
       ·refine run 2 ?_
        obtain ⟨x277, hx277, ho⟩ := bnd ho
        refine run 3 ?_
        refine xcl ho ?_
        intro y278 hy278 ho
        show SOps ..
        refine run 3 ?_
        refine wct ho (fun hq279 ho => ?_) fun hq279 ho => ?_
        ·refine run 4 ?_
         obtain ⟨x280, hx280, ho⟩ := bnd ho
         refine run 2 ?_
         refine s_st (st_nilrow (rInt .i64)) ?_
         obtain ⟨x282, hx282, ho⟩ := bnd ho
         refine s_app 0 S22 Y3 hx282 (.n rfl) rfl rfl rfl rfl rfl .nilr rfl (.t rfl) rfl ?_
         intro v283
         refine run 2 ?_
         obtain ⟨x284, hx284, ho⟩ := bnd ho
         refine xap fun v285 => ?_
         refine s_st (st_freeze 0 [48] rfl rfl ⟨rfl, trivial⟩) ?_
         refine run 1 ?_
         obtain ⟨x286, hx286, ho⟩ := bnd ho
         refine xap fun v287 => ?_
         refine run 6 ?_
         cases ho; exact s_nil (lf [v287] [1, 0])
        ·refine run 5 ?_
         cases ho; exact s_nil (lf [(gh g258 0)] [0, 1])
      ·cases ho; exact r_exit (lf [(gh g258 0)] [0, 1])
     ·show SRun ..
      refine run 4 ?_
      cases ho; exact s_nil (lf [(gh g292 0)] [0, 1])
    ·cases ho; exact r_exit (lf [(gh g225 0)] [1])
   ·show SRun ..
    refine run 8 ?_
    cases ho; exact s_nil (lf [(gh g297 0)] [0])
  ·cases ho; exact r_exit (lf [(gh g151 0)] [0])
 ·show SRun ..
  exact w ho⟩
instance i22 {p_0 p_1 p_2} : FI ktab 22 (g_ref09_Best p_0 p_1 p_2) [.val (rSlice rStableTrack) p_0, .val (rSlice rStableCar) p_1, .val (rSlice rStableLeave) p_2] (fun out => [.val rStablePlan (out.1), .val rBool (out.2)]) := ⟨fun out ho => by
 delta g_ref09_Best at ho
 refine fn fun _ _ => ?_
 refine run 2 ?_
 refine xal (zv := .agg [.nilslice, .nilslice, .int .i64 0]) (es := [.val (rSlice (rInt .i64)) ([]), .val (rSlice (rInt .i64)) ([]), vI (0)]) (by kernel_rfl) fun b1 => ?_
 refine run 8 ?_
 refine xcl ho ?_
 intro y3 hy3 ho v4
 show SOps ..
 refine run 4 ?_
 refine xcl ho ?_
 intro y6 hy6 ho v7
 show SOps ..
 refine run 5 ?_
 refine xal (zv := .agg [.nilslice, .nilslice, .int .i64 0]) (es := [.val (rSlice (rInt .i64)) ([]), .val (rSlice (rInt .i64)) ([]), vI (0)]) (by kernel_rfl) fun b9 => ?_
 refine run 11 ?_
 obtain ⟨t145, ht145, ho⟩ := bnd ho
 refine wlp ht145 [0, 1, 2, 6, 8, 9, 10] (fun s g => ([(11, vB (s.1)), (12, vI (s.2.1))], [(.ptr b9 0, .box [.val (rSlice (rInt .i64)) (s.2.2.1), .val (rSlice (rInt .i64)) (s.2.2.2.1), vI (s.2.2.2.2)]), (v7, .row (rSlice (rInt .i64)) (y6)), (v4, .row (rSlice (rInt .i64)) (y3)), (.ptr b1 0, .box [.val (rSlice (rInt .i64)) ([]), .val (rSlice (rInt .i64)) ([]), vI (0)])])) (fun b => (.exit 0, fun g => ([(11, vB (b.1))], [(.ptr b9 0, .box [.val (rSlice (rInt .i64)) (b.2.1), .val (rSlice (rInt .i64)) (b.2.2.1), vI (b.2.2.2)]), (.ptr b1 0, .box [.val (rSlice (rInt .i64)) ([]), .val (rSlice (rInt .i64)) ([]), vI (0)])]))) [] SEL (pk [0, 1, 2, 3]) NE (fun s99 g100 _ ho => ?_) fun g146 => ?_
 ·refine run 8 ?_
  refine wct ho (fun hq101 ho => ?_) fun hq101 ho => ?_
  ·refine run 8 ?_
   obtain ⟨t143, ht143, ho⟩ := bnd ho
   refine wlp ht143 [0, 1, 2, 6, 8, 9, 10, 12] (fun s g => ([(11, vB (s.1)), (13, vI (s.2.1))], [(.ptr b9 0, .box [.val (rSlice (rInt .i64)) (s.2.2.1), .val (rSlice (rInt .i64)) (s.2.2.2.1), vI (s.2.2.2.2)]), (v7, .row (rSlice (rInt .i64)) (y6)), (v4, .row (rSlice (rInt .i64)) (y3)), (.ptr b1 0, .box [.val (rSlice (rInt .i64)) ([]), .val (rSlice (rInt .i64)) ([]), vI (0)])])) (fun b => (.exit 2, fun g => ([(11, vB (b.1))], [(.ptr b9 0, .box [.val (rSlice (rInt .i64)) (b.2.1), .val (rSlice (rInt .i64)) (b.2.2.1), vI (b.2.2.2)]), (v7, .row (rSlice (rInt .i64)) (y6)), (v4, .row (rSlice (rInt .i64)) (y3)), (.ptr b1 0, .box [.val (rSlice (rInt .i64)) ([]), .val (rSlice (rInt .i64)) ([]), vI (0)])]))) [] SEL (pk [0, 1, 2, 3]) NE (fun s128 g129 _ ho => ?_) fun g144 => ?_
   ·refine run 8 ?_
    refine wct ho (fun hq130 ho => ?_) fun hq130 ho => ?_
    ·refine run 4 ?_
     refine r_draw [3, 7] (by kernel_rfl) ?_
     refine run 2 ?_
     obtain ⟨x131, hx131, ho⟩ := bnd ho
     refine run 4 ?_
     obtain ⟨x132, hx132, ho⟩ := bnd ho
     refine run 3 ?_
     refine xal (zv := .agg [.nilslice, .nilslice, .int .i64 0]) (es := [.val (rSlice (rInt .i64)) ([]), .val (rSlice (rInt .i64)) ([]), vI (0)]) (by kernel_rfl) fun b133 => ?_
     refine run 1 ?_
     refine s_st (st_freezeb (R := rStablePlan) (a := ((x131, x132, 0, ()) : StablePlan)) 0 [14] (cells_pair (cells_one rfl) (cells_pair (cells_one rfl) (cells_pair (cells_one rfl) cells_unit rfl) rfl) rfl) rfl rfl ⟨rfl, trivial⟩) ?_
     refine run 7 ?_
     refine xcl ho ?_
     intro y135 hy135 ho
     show SOps ..
     refine run 10 ?_
     refine wbr ho (fun hb138 ho => ?_) fun hb138 ho => ?_
     ·refine run 3 ?_
      refine wbr ho (fun hb139 ho => ?_) fun hb139 ho => ?_
      ·refine run 7 ?_
       refine r_cond (.t rfl) (fun _ => ?_) (fun hq => by cases hq)
       refine run 15 ?_
       cases ho; exact s_nil (lf [] [0, 1, 2, 3])
      ·refine run 7 ?_
       refine wct ho (fun hq141 ho => ?_) fun hq141 ho => ?_
       ·refine run 15 ?_
        cases ho; exact s_nil (lf [] [0, 1, 2, 3])
       ·refine run 5 ?_
        cases ho; exact s_nil (lf [] [0, 1, 2, 3])
     ·refine run 10 ?_
      refine r_cond (.t rfl) (fun hq => by cases hq) (fun _ => ?_)
      refine run 5 ?_
      cases ho; exact s_nil (lf [] [0, 1, 2, 3])
    ·cases ho; exact r_exit (lf [] [0, 1, 2, 3])
   ·show SRun ..
    refine run 4 ?_
    cases ho; exact s_nil (lf [] [0, 1, 2, 3])
  ·cases ho; exact r_exit (lf [] [0, 3])
 ·show SRun ..
  refine run 2 ?_
  refine s_loadbs (R := rStablePlan) (a := (t145.2.1, t145.2.2.1, t145.2.2.2, ())) 0 (fun _ h => by cases h <;> rfl) U36 (cells_pair (cells_one rfl) (cells_pair (cells_one rfl) (cells_pair (cells_one rfl) cells_unit rfl) rfl) rfl) (.n rfl) rfl rfl (.t rfl) rfl ?_
  refine run 4 ?_
  cases ho; exact r_ret (ret_of (.inr rfl) (.b 1 U36 (cells_pair (cells_one rfl) (cells_pair (cells_one rfl) (cells_pair (cells_one rfl) cells_unit rfl) rfl) rfl) rfl rfl (.v rfl .n)) (by decide))⟩
instance i4 {p_0 p_1 p_2} : FI ktab 4 (g_law09_DepotNights p_0 p_1 p_2) [.val (rSlice rStableTrack) p_0, .val (rSlice rStableCar) p_1, .val (rSlice rStableLeave) p_2] (fun out => [.val rBool (out)]) := ⟨fun out ho => by
 delta g_law09_DepotNights at ho
 refine fn fun _ _ => ?_
 refine run 10 ?_
 refine xcl ho ?_
 intro y1 hy1 ho
 show SOps ..
 refine run 2 ?_
 refine wct ho (fun hq2 ho => ?_) fun hq2 ho => ?_
 ·refine run 2 ?_
  refine s_const (v := .bool true) (e := .val rBool true) rfl known_te (.n rfl) rfl rfl rfl .f rfl ?_
  exact w ho
 ·refine run 6 ?_
  refine xcl ho ?_
  intro y3 hy3 ho
  show SOps ..
  refine run 3 ?_
  refine xal (zv := .agg [.nilslice, .nilslice, .int .i64 0]) (es := [.val (rSlice (rInt .i64)) ([]), .val (rSlice (rInt .i64)) ([]), vI (0)]) (by kernel_rfl) fun b4 => ?_
  refine run 1 ?_
  refine s_st (st_freezeb (R := rStablePlan) (a := y3.1) 0 [7] (cells_pair (cells_one rfl) (cells_pair (cells_one rfl) (cells_pair (cells_one rfl) cells_unit rfl) rfl) rfl) rfl rfl ⟨rfl, trivial⟩) ?_
  refine run 8 ?_
  refine xcl ho ?_
  intro y6 hy6 ho
  show SOps ..
  refine run 2 ?_
  refine wct ho (fun hq7 ho => ?_) fun hq7 ho => ?_
  ·refine run 1 ?_
   obtain ⟨c11, hc11, ho⟩ := bnd ho
   refine wcx c11 [] (fun t => (.normal, fun _ => ([(6, vB (t))], []))) SEL ?_ fun _ => ?_
   ·have ho := hc11
    refine run 4 ?_
    refine wbr ho (fun hb12 ho => ?_) fun hb12 ho => ?_
    ·refine run 2 ?_
     refine xcl ho ?_
     intro y13 hy13 ho
     show SOps ..
     refine run 2 ?_
     refine wbr ho (fun hb14 ho => ?_) fun hb14 ho => ?_
     ·refine s_const (v := .bool true) (e := .val rBool true) rfl known_te (.g rfl rfl (gt1 hb14)) rfl rfl rfl .f rfl ?_
      exact w ho
     ·exact w ho
    ·exact w ho
   ·show SRun ..
    cases ho; exact r_ret (ret_of (.inr rfl) (.v rfl .n) (by decide))
  ·refine run 6 ?_
   refine xcl ho ?_
   intro y15 hy15 ho
   show SOps ..
   refine run 3 ?_
   refine xal (zv := .agg [.nilslice, .nilslice, .int .i64 0]) (es := [.val (rSlice (rInt .i64)) ([]), .val (rSlice (rInt .i64)) ([]), vI (0)]) (by kernel_rfl) fun b16 => ?_
   refine run 1 ?_
   refine s_st (st_freezeb (R := rStablePlan) (a := y15.1) 0 [9] (cells_pair (cells_one rfl) (cells_pair (cells_one rfl) (cells_pair (cells_one rfl) cells_unit rfl) rfl) rfl) rfl rfl ⟨rfl, trivial⟩) ?_
   refine run 8 ?_
   refine wct ho (fun hq18 ho => ?_) fun hq18 ho => ?_
   ·refine run 1 ?_
    obtain ⟨c22, hc22, ho⟩ := bnd ho
    refine wcx c22 [] (fun t => (.normal, fun _ => ([(6, vB (t))], []))) SEL ?_ fun _ => ?_
    ·have ho := hc22
     refine run 4 ?_
     refine wbr ho (fun hb23 ho => ?_) fun hb23 ho => ?_
     ·refine run 2 ?_
      refine xcl ho ?_
      intro y24 hy24 ho
      show SOps ..
      refine run 2 ?_
      refine wbr ho (fun hb25 ho => ?_) fun hb25 ho => ?_
      ·refine s_const (v := .bool true) (e := .val rBool true) rfl known_te (.g rfl rfl (gt1 hb25)) rfl rfl rfl .f rfl ?_
       exact w ho
      ·exact w ho
     ·exact w ho
    ·show SRun ..
     cases ho; exact r_ret (ret_of (.inr rfl) (.v rfl .n) (by decide))
   ·refine run 2 ?_
    obtain ⟨c29, hc29, ho⟩ := bnd ho
    refine wcx c29 [] (fun t => (.normal, fun _ => ([(6, vB (t))], []))) SEL ?_ fun _ => ?_
    ·have ho := hc29
     refine run 4 ?_
     refine wbr ho (fun hb30 ho => ?_) fun hb30 ho => ?_
     ·refine run 2 ?_
      refine xcl ho ?_
      intro y31 hy31 ho
      show SOps ..
      refine run 2 ?_
      refine wbr ho (fun hb32 ho => ?_) fun hb32 ho => ?_
      ·refine s_const (v := .bool true) (e := .val rBool true) rfl known_te (.g rfl rfl (gt1 hb32)) rfl rfl rfl .f rfl ?_
       exact w ho
      ·exact w ho
     ·exact w ho
    ·show SRun ..
     cases ho; exact r_ret (ret_of (.inr rfl) (.v rfl .n) (by decide))⟩
end Go.Ai.TabYtpiblfbidgcjaaa
