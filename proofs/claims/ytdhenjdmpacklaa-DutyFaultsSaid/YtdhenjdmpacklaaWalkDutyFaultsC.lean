/- Written by program: walks through functions. -/
import Derived.Test.YtdhenjdmpacklaaWalkknownC
namespace Go.Ai.TabYtdhenjdmpacklaa
open Go Go.Ai Go.Ai.Sx Go.Proofs
attribute [local irreducible] SOps
set_option maxRecDepth 100000
theorem g_law08_few_ok {t_0 : (List Task)} {y_1 : Yard} {most_2 : Int} {out : (Bool)} (ho : g_law08_few t_0 y_1 most_2 = some out) : Fun ktab 12 [.val (rSlice rTask) t_0, .val rYard y_1, .val (rInt .i64) most_2] [.val rBool (out)] := by
  refine fun_of (F := Try.f12) (by rfl) (by rfl) (by rfl) (fun C hC => ?_)
  delta g_law08_few at ho
  refine rr <| bx rfl <| sgb <| nq <| r_seq <| r_seq ?_
  obtain ⟨c2, hc2, ho⟩ := bnd ho
  refine r_cut (τ := (Bool)) (G := Unit) (fun t => (.normal, fun _ => ([(0, .val (rSlice rTask) (t_0)), (2, .val (rInt .i64) (most_2)), (4, .val (rPtr rYard) (y_1)), (17, .val rBool (t))], []))) (t := c2) ?_ ?_
  · have ho := hc2
    clear hc2
    refine r_region <| fa F26_2 fk_Yard_2 (by decide) rfl <| ld U24 rfl <| ln S24 rfl rfl rfl (.t rfl) <| cmc rfl (by decide) .gtr <| mv rfl ?_
    rcases Bool.eq_false_or_eq_true ((decide ((lenI y_1.2.2.1) > 50))) with hb3 | hb3
    · have ho := cnd1 ho hb3
      refine skg (gf1 hb3) rfl rfl <| skg (gf1 hb3) rfl rfl <| skg (gf1 hb3) rfl rfl <| skg (gf1 hb3) rfl rfl <| pk1 hb3 rfl .b ?_
      cases ho
      exact s_nil fun _ _ s => fz () s ⟨rfl, rfl, rfl, rfl, trivial⟩ rfl
    · have ho := cnd0 ho hb3
      refine s_fa F26_0 fk_Yard_0 (by decide) (.g rfl rfl (gf0 hb3)) rfl rfl (.t rfl) <| ldg U23 (gf0 hb3) rfl rfl rfl <| s_len S23 (.g rfl rfl (gf0 hb3)) rfl rfl rfl rfl rfl (.t rfl) <| s_cmp (.g rfl rfl (gf0 hb3)) rfl rfl (.t rfl) (.i (by decide) (by decide)) .gtr <| pk0 hb3 rfl (.t rfl) ?_
      cases ho
      exact s_nil fun _ _ s => fz () s ⟨rfl, rfl, rfl, rfl, trivial⟩ rfl
  · intro _
    show SRun ..
    refine ct rfl (fun hq4 => ?_) (fun hq4 => ?_)
    · have ho := cnd1 ho hq4
      refine rr <| sgb <| nq ?_
      cases ho
      exact r_ret (ret_of (.inr rfl) (.v rfl .n) (by decide))
    · have ho := cnd0 ho hq4
      refine kq rfl <| r_seq <| rr <| sgc (by decide) <| nq <| r_block ?_
      obtain ⟨t13, ht13, ho⟩ := bnd ho
      refine r_loop (σ := (Int)) (τ := Unit ⊕ (Bool)) (G := List AVal) (fun s g => ([(0, .val (rSlice rTask) (t_0)), (2, .val (rInt .i64) (most_2)), (4, .val (rPtr rYard) (y_1)), (7, .val (rInt .i64) (s))], [])) (altX (fun b => (.exit 0, fun g => ([(0, .val (rSlice rTask) (t_0)), (2, .val (rInt .i64) (most_2))], []))) (fun b => (.ret, fun g => ([(6, .val rBool (b))], [])))) _ [] ht13 (fun fr h s => s.pick [] ⟨rfl, rfl, rfl, rfl, trivial⟩ rfl (by decide)) ?_ ?_ ?_
      · intro t
        rcases t with t | t
        · exact nx
        · exact nr
      · clear ho
        intro s8 g9 r14 ho
        refine r_seq <| rr <| mv rfl <| fa F26_0 fk_Yard_0 (by decide) rfl <| ld U23 rfl <| ln S23 rfl rfl rfl (.t rfl) <| cm rfl rfl .lss <| nq <| ct rfl (fun hq10 => ?_) (fun hq10 => ?_)
        · have ho := cnd1 ho hq10
          refine kq rfl <| r_seq <| r_block <| rr <| fa F26_0 fk_Yard_0 (by decide) rfl <| ld U23 rfl <| mv rfl ?_
          obtain ⟨x11, hx11, ho⟩ := bnd ho
          refine ix S23 hx11 rfl rfl <| ld U29 rfl <| ln S29 rfl rfl rfl (.t rfl) <| cmc rfl (by decide) .gtr <| nq <| ct rfl (fun hq12 => ?_) (fun hq12 => ?_)
          · have ho := cnd1 ho hq12
            refine rr <| sgb <| nq ?_
            cases ho
            exact r_ret fun _ _ s => fz [] s ⟨rfl, trivial⟩ rfl
          · have ho := cnd0 ho hq12
            refine kq rfl <| r_region <| mv rfl <| arc rfl (by decide) .add <| sg rfl ?_
            cases ho
            exact s_nil fun _ _ s => fz [] s ⟨rfl, rfl, rfl, rfl, trivial⟩ rfl
        · have ho := cnd0 ho hq10
          cases ho
          exact r_exit fun _ _ s => fz [] s ⟨rfl, rfl, trivial⟩ rfl
      · clear ht13
        rcases t13 with b15 | b16
        · have ho := alt_l ho
          intro g17
          show ∀ fr h, St _ [(0, .val (rSlice rTask) (t_0)), (2, .val (rInt .i64) (most_2))] [] fr h → _
          show SRun ..
          refine r_seq ?_
          obtain ⟨c20, hc20, ho⟩ := bnd ho
          refine r_cut (τ := (Bool)) (G := Unit) (fun t => (.normal, fun _ => ([(6, .val rBool (t))], []))) (t := c20) ?_ ?_
          · have ho := hc20
            clear hc20
            refine r_region <| mv rfl <| ln S22 rfl rfl rfl (.t rfl) <| mv rfl <| cm rfl rfl .leq <| mv rfl ?_
            rcases Bool.eq_false_or_eq_true ((decide ((lenI t_0) ≤ most_2))) with hb21 | hb21
            · have ho := cnd1 ho hb21
              refine skg (gf1 hb21) rfl rfl <| skg (gf1 hb21) rfl rfl <| skg (gf1 hb21) rfl rfl <| skg (gf1 hb21) rfl rfl <| sku rfl rfl <| sku rfl rfl <| sku rfl rfl <| skg (gf1 hb21) rfl rfl <| pk1 hb21 rfl .b <| sg rfl ?_
              cases ho
              exact s_nil fun _ _ s => fz () s ⟨rfl, trivial⟩ rfl
            · have ho := cnd0 ho hb21
              refine mvg (gf0 hb21) rfl rfl rfl <| s_len S22 (.g rfl rfl (gf0 hb21)) rfl rfl rfl rfl rfl (.t rfl) <| s_cmp (.g rfl rfl (gf0 hb21)) rfl rfl (.t rfl) (.i (by decide) (by decide)) .gtr <| mvg (gf0 hb21) rfl rfl rfl ?_
              rcases Bool.eq_false_or_eq_true ((decide ((lenI t_0) > 60))) with hb22 | hb22
              · have ho := cnd1 ho hb22
                refine mvg (gt1 hb22) rfl rfl rfl <| s_len S22 (.g rfl rfl (gt1 hb22)) rfl rfl rfl rfl rfl (.t rfl) <| s_cmp (.g rfl rfl (gt1 hb22)) rfl rfl (.t rfl) (.i (by decide) (by decide)) .lss <| s_pk1 hb22 (.g rfl rfl (gf0 hb21)) rfl rfl (.t rfl) (.t rfl) <| pk0 hb21 rfl (.t rfl) <| sg rfl ?_
                cases ho
                exact s_nil fun _ _ s => fz () s ⟨rfl, trivial⟩ rfl
              · have ho := cnd0 ho hb22
                refine skg (gt0 hb22) rfl rfl <| skg (gt0 hb22) rfl rfl <| skg (gt0 hb22) rfl rfl <| s_pk0 hb22 (.g rfl rfl (gf0 hb21)) rfl rfl (.t rfl) .b <| pk0 hb21 rfl (.t rfl) <| sg rfl ?_
                cases ho
                exact s_nil fun _ _ s => fz () s ⟨rfl, trivial⟩ rfl
          · intro _
            show SRun ..
            cases ho
            exact r_ret (ret_of (.inr rfl) (.v rfl .n) (by decide))
        · have ho := alt_r ho
          intro g23
          show ∀ fr h, St _ [(6, .val rBool (b16))] [] fr h → _
          cases ho
          exact id (ret_of (.inr rfl) (.v rfl .n) (by decide))
theorem g_ref08_in_ok {x_0 : Int} {low_1 : Int} {high_2 : Int} {out : (Bool)} (ho : g_ref08_in x_0 low_1 high_2 = some out) : Fun ktab 42 [.val (rInt .i64) x_0, .val (rInt .i64) low_1, .val (rInt .i64) high_2] [.val rBool (out)] := by
  refine fun_of (F := Try.f42) (by rfl) (by rfl) (by rfl) (fun C hC => ?_)
  delta g_ref08_in at ho
  refine rr <| sgb <| nq <| r_seq ?_
  obtain ⟨c2, hc2, ho⟩ := bnd ho
  refine r_cut (τ := (Bool)) (G := Unit) (fun t => (.normal, fun _ => ([(6, .val rBool (t))], []))) (t := c2) ?_ ?_
  · have ho := hc2
    clear hc2
    refine r_region <| mv rfl <| mv rfl <| cm rfl rfl .geq <| mv rfl ?_
    rcases Bool.eq_false_or_eq_true ((decide (x_0 ≥ low_1))) with hb3 | hb3
    · have ho := cnd1 ho hb3
      refine mvg (gt1 hb3) rfl rfl rfl <| mvg (gt1 hb3) rfl rfl rfl <| s_cmp (.g rfl rfl (gt1 hb3)) rfl rfl (.t rfl) (.t rfl) .leq <| pk1 hb3 rfl (.t rfl) <| sg rfl ?_
      cases ho
      exact s_nil fun _ _ s => fz () s ⟨rfl, trivial⟩ rfl
    · have ho := cnd0 ho hb3
      refine skg (gt0 hb3) rfl rfl <| skg (gt0 hb3) rfl rfl <| skg (gt0 hb3) rfl rfl <| pk0 hb3 rfl .b <| sg rfl ?_
      cases ho
      exact s_nil fun _ _ s => fz () s ⟨rfl, trivial⟩ rfl
  · intro _
    show SRun ..
    cases ho
    exact r_ret (ret_of (.inr rfl) (.v rfl .n) (by decide))
theorem g_ref08_Fine_ok {p_0 : (List Task)} {p_1 : Yard} {out : (Bool)} (ho : g_ref08_Fine p_0 p_1 = some out) : Fun ktab 15 [.val (rSlice rTask) p_0, .val rYard p_1] [.val rBool (out)] := by
  refine fun_of (F := Try.f15) (by rfl) (by rfl) (by rfl) (fun C hC => ?_)
  delta g_ref08_Fine at ho
  refine rr <| bx rfl <| sgb <| nq <| rr <| fa F26_2 fk_Yard_2 (by decide) rfl <| ld U24 rfl <| ln S24 rfl rfl rfl (.t rfl) <| sg rfl <| nq <| r_seq <| r_seq ?_
  obtain ⟨c6, hc6, ho⟩ := bnd ho
  refine r_cut (τ := (Bool)) (G := Unit) (fun t => (.normal, fun _ => ([(0, .val (rSlice rTask) (p_0)), (3, .val (rPtr rYard) (p_1)), (5, .val (rInt .i64) ((lenI p_1.2.2.1))), (33, .val rBool (t))], []))) (t := c6) ?_ ?_
  · have ho := hc6
    clear hc6
    refine r_region <| mv rfl ?_
    obtain ⟨y7, hy7, ho⟩ := bnd ho
    refine s_calll (g_ref08_in_ok hy7) (.v flat_bool .n) rfl (.n rfl) rfl rfl rfl .f (.c (.o (.t rfl)) (.c (.o (.i (by decide) (by decide))) (.c (.o (.i (by decide) (by decide))) .n))) ?_
    show SOps ..
    refine s_not (.n rfl) rfl rfl (.t rfl) <| mv rfl ?_
    rcases Bool.eq_false_or_eq_true ((!y7)) with hb8 | hb8
    · have ho := cnd1 ho hb8
      refine skg (gf1 hb8) rfl rfl <| skg (gf1 hb8) rfl rfl <| skg (gf1 hb8) rfl rfl <| skg (gf1 hb8) rfl rfl <| skg (gf1 hb8) rfl rfl <| pk1 hb8 rfl .b <| mv rfl <| skg rfl rfl rfl <| skg rfl rfl rfl <| skg rfl rfl rfl <| skg rfl rfl rfl <| pt rfl .b <| mv rfl <| skg rfl rfl rfl <| skg rfl rfl rfl <| skg rfl rfl rfl <| pt rfl .b ?_
      cases ho
      exact s_nil fun _ _ s => fz () s ⟨rfl, rfl, rfl, rfl, trivial⟩ rfl
    · have ho := cnd0 ho hb8
      refine s_fa F26_0 fk_Yard_0 (by decide) (.g rfl rfl (gf0 hb8)) rfl rfl (.t rfl) <| ldg U23 (gf0 hb8) rfl rfl rfl <| s_len S23 (.g rfl rfl (gf0 hb8)) rfl rfl rfl rfl rfl (.t rfl) <| mvg (gf0 hb8) rfl rfl rfl <| s_cmp (.g rfl rfl (gf0 hb8)) rfl rfl (.t rfl) (.t rfl) .neq <| pk0 hb8 rfl (.t rfl) <| mv rfl ?_
      rcases Bool.eq_false_or_eq_true (((lenI p_1.1) != (lenI p_1.2.2.1))) with hb9 | hb9
      · have ho := cnd1 ho hb9
        refine skg (gf1 hb9) rfl rfl <| skg (gf1 hb9) rfl rfl <| skg (gf1 hb9) rfl rfl <| skg (gf1 hb9) rfl rfl <| pk1 hb9 rfl .b <| mv rfl <| skg rfl rfl rfl <| skg rfl rfl rfl <| skg rfl rfl rfl <| pt rfl .b ?_
        cases ho
        exact s_nil fun _ _ s => fz () s ⟨rfl, rfl, rfl, rfl, trivial⟩ rfl
      · have ho := cnd0 ho hb9
        refine s_fa F26_1 fk_Yard_1 (by decide) (.g rfl rfl (gf0 hb9)) rfl rfl (.t rfl) <| ldg U3 (gf0 hb9) rfl rfl rfl ?_
        obtain ⟨y10, hy10, ho⟩ := bnd ho
        refine s_calll (g_ref08_in_ok hy10) (.v flat_bool .n) rfl (.g rfl rfl (gf0 hb9)) rfl rfl rfl .f (.c (.o (.t rfl)) (.c (.o (.i (by decide) (by decide))) (.c (.o (.i (by decide) (by decide))) .n))) ?_
        show SOps ..
        refine s_not (.g rfl rfl (gf0 hb9)) rfl rfl (.t rfl) <| pk0 hb9 rfl (.t rfl) <| mv rfl ?_
        rcases Bool.eq_false_or_eq_true ((!y10)) with hb11 | hb11
        · have ho := cnd1 ho hb11
          refine skg (gf1 hb11) rfl rfl <| skg (gf1 hb11) rfl rfl <| skg (gf1 hb11) rfl rfl <| pk1 hb11 rfl .b ?_
          cases ho
          exact s_nil fun _ _ s => fz () s ⟨rfl, rfl, rfl, rfl, trivial⟩ rfl
        · have ho := cnd0 ho hb11
          refine mvg (gf0 hb11) rfl rfl rfl <| s_len S22 (.g rfl rfl (gf0 hb11)) rfl rfl rfl rfl rfl (.t rfl) <| s_cmp (.g rfl rfl (gf0 hb11)) rfl rfl (.t rfl) (.i (by decide) (by decide)) .gtr <| pk0 hb11 rfl (.t rfl) ?_
          cases ho
          exact s_nil fun _ _ s => fz () s ⟨rfl, rfl, rfl, rfl, trivial⟩ rfl
  · intro _
    show SRun ..
    refine ct rfl (fun hq12 => ?_) (fun hq12 => ?_)
    · have ho := cnd1 ho hq12
      refine rr <| sgb <| nq ?_
      cases ho
      exact r_ret (ret_of (.inr rfl) (.v rfl .n) (by decide))
    · have ho := cnd0 ho hq12
      refine kq rfl <| r_seq <| rr <| sgc (by decide) <| nq <| r_block ?_
      obtain ⟨t73, ht73, ho⟩ := bnd ho
      refine r_loop (σ := (Int)) (τ := Unit ⊕ (Bool)) (G := List AVal) (fun s g => ([(0, .val (rSlice rTask) (p_0)), (3, .val (rPtr rYard) (p_1)), (5, .val (rInt .i64) ((lenI p_1.2.2.1))), (6, .val (rInt .i64) (s))], [])) (altX (fun b => (.exit 0, fun g => ([(0, .val (rSlice rTask) (p_0)), (5, .val (rInt .i64) ((lenI p_1.2.2.1)))], []))) (fun b => (.ret, fun g => ([(4, .val rBool (b))], [])))) _ [] ht73 (fun fr h s => s.pick [] ⟨rfl, rfl, rfl, rfl, trivial⟩ rfl (by decide)) ?_ ?_ ?_
      · intro t
        rcases t with t | t
        · exact nx
        · exact nr
      · clear ho
        intro s42 g43 r74 ho
        refine r_seq <| rr <| mv rfl <| mv rfl <| cm rfl rfl .lss <| nq <| ct rfl (fun hq44 => ?_) (fun hq44 => ?_)
        · have ho := cnd1 ho hq44
          refine kq rfl <| r_seq <| r_block <| r_seq <| rr <| fa F26_0 fk_Yard_0 (by decide) rfl <| ld U23 rfl <| mv rfl ?_
          obtain ⟨x49, hx49, ho⟩ := bnd ho
          refine ix S23 hx49 rfl rfl <| ld U29 rfl <| ln S29 rfl rfl rfl (.t rfl) <| mv rfl <| cm rfl rfl .neq <| mv rfl ?_
          rcases Bool.eq_false_or_eq_true (((lenI x49) != (lenI p_1.2.2.1))) with hb50 | hb50
          · have ho := cnd1 ho hb50
            refine skg (gf1 hb50) rfl rfl <| skg (gf1 hb50) rfl rfl <| skg (gf1 hb50) rfl rfl <| skg (gf1 hb50) rfl rfl <| skg (gf1 hb50) rfl rfl <| skg (gf1 hb50) rfl rfl <| skg (gf1 hb50) rfl rfl <| skg (gf1 hb50) rfl rfl <| skg (gf1 hb50) rfl rfl <| pk1 hb50 rfl .b <| nq <| ct rfl (fun _ => ?_) (fun hq => by cases hq)
            refine rr <| sgb <| nq ?_
            cases ho
            exact r_ret fun _ _ s => fz [] s ⟨rfl, trivial⟩ rfl
          · have ho := cnd0 ho hb50
            refine s_fa F26_0 fk_Yard_0 (by decide) (.g rfl rfl (gf0 hb50)) rfl rfl (.t rfl) <| ldg U23 (gf0 hb50) rfl rfl rfl <| mvg (gf0 hb50) rfl rfl rfl ?_
            obtain ⟨x52, hx52, ho⟩ := bnd ho
            refine s_idx S23 hx52 (.g rfl rfl (gf0 hb50)) rfl rfl (.t rfl) (.t rfl) <| ldg U29 (gf0 hb50) rfl rfl rfl <| mvg (gf0 hb50) rfl rfl rfl ?_
            obtain ⟨x53, hx53, ho⟩ := bnd ho
            refine s_idx S29 hx53 (.g rfl rfl (gf0 hb50)) rfl rfl (.t rfl) (.t rfl) <| ldg U3 (gf0 hb50) rfl rfl rfl <| s_cmp (.g rfl rfl (gf0 hb50)) rfl rfl (.t rfl) (.i (by decide) (by decide)) .neq <| pk0 hb50 rfl (.t rfl) <| nq <| ct rfl (fun hq54 => ?_) (fun hq54 => ?_)
            · have ho := cnd1 ho hq54
              refine rr <| sgb <| nq ?_
              cases ho
              exact r_ret fun _ _ s => fz [] s ⟨rfl, trivial⟩ rfl
            · have ho := cnd0 ho hq54
              refine kq rfl <| rr <| sgc (by decide) <| nq <| r_block ?_
              obtain ⟨t67, ht67, ho⟩ := bnd ho
              refine r_loop (σ := (Int)) (τ := Unit ⊕ (Bool)) (G := List AVal) (fun s g => ([(0, .val (rSlice rTask) (p_0)), (3, .val (rPtr rYard) (p_1)), (5, .val (rInt .i64) ((lenI p_1.2.2.1))), (6, .val (rInt .i64) (s42)), (7, .val (rInt .i64) (s)), (48, .val (rPtr (rSlice (rSlice (rInt .i64)))) (p_1.1)), (49, .val (rSlice (rSlice (rInt .i64))) (p_1.1)), (50, .val (rInt .i64) (s42)), (51, .val (rPtr (rSlice (rInt .i64))) (x52)), (52, .val (rSlice (rInt .i64)) (x52)), (53, .val (rInt .i64) (s42)), (54, .val (rPtr (rInt .i64)) (x53)), (55, .val (rInt .i64) (x53)), (56, .val rBool ((x53 != 0)))], [])) (altX (fun b => (.exit 2, fun g => ([(0, .val (rSlice rTask) (p_0)), (3, .val (rPtr rYard) (p_1)), (5, .val (rInt .i64) ((lenI p_1.2.2.1))), (6, .val (rInt .i64) (s42)), (48, .val (rPtr (rSlice (rSlice (rInt .i64)))) (p_1.1)), (49, .val (rSlice (rSlice (rInt .i64))) (p_1.1)), (50, .val (rInt .i64) (s42)), (51, .val (rPtr (rSlice (rInt .i64))) (x52)), (52, .val (rSlice (rInt .i64)) (x52)), (53, .val (rInt .i64) (s42)), (54, .val (rPtr (rInt .i64)) (x53)), (55, .val (rInt .i64) (x53)), (56, .val rBool ((x53 != 0)))], []))) (fun b => (.ret, fun g => ([(4, .val rBool (b))], [])))) _ [] ht67 (fun fr h s => s.pick [] ⟨rfl, rfl, rfl, rfl, rfl, rfl, rfl, rfl, rfl, rfl, rfl, rfl, rfl, rfl, trivial⟩ rfl (by decide)) ?_ ?_ ?_
              · intro t
                rcases t with t | t
                · exact nx
                · exact nr
              · clear ho
                intro s60 g61 r68 ho
                refine r_seq <| rr <| mv rfl <| mv rfl <| cm rfl rfl .lss <| nq <| ct rfl (fun hq62 => ?_) (fun hq62 => ?_)
                · have ho := cnd1 ho hq62
                  refine kq rfl <| r_seq <| r_block <| rr <| fa F26_0 fk_Yard_0 (by decide) rfl <| ld U23 rfl <| mv rfl ?_
                  obtain ⟨x63, hx63, ho⟩ := bnd ho
                  refine ix S23 hx63 rfl rfl <| ld U29 rfl <| mv rfl ?_
                  obtain ⟨x64, hx64, ho⟩ := bnd ho
                  refine ix S29 hx64 rfl rfl <| ld U3 rfl ?_
                  obtain ⟨y65, hy65, ho⟩ := bnd ho
                  refine s_calll (g_ref08_in_ok hy65) (.v flat_bool .n) rfl (.n rfl) rfl rfl rfl .f (.c (.o (.t rfl)) (.c (.o (.i (by decide) (by decide))) (.c (.o (.i (by decide) (by decide))) .n))) ?_
                  show SOps ..
                  refine s_not (.n rfl) rfl rfl (.t rfl) <| nq <| ct rfl (fun hq66 => ?_) (fun hq66 => ?_)
                  · have ho := cnd1 ho hq66
                    refine rr <| sgb <| nq ?_
                    cases ho
                    exact r_ret fun _ _ s => fz [] s ⟨rfl, trivial⟩ rfl
                  · have ho := cnd0 ho hq66
                    refine kq rfl <| r_region <| mv rfl <| arc rfl (by decide) .add <| sg rfl ?_
                    cases ho
                    exact s_nil fun _ _ s => fz [] s ⟨rfl, rfl, rfl, rfl, rfl, rfl, rfl, rfl, rfl, rfl, rfl, rfl, rfl, rfl, trivial⟩ rfl
                · have ho := cnd0 ho hq62
                  cases ho
                  exact r_exit fun _ _ s => fz [] s ⟨rfl, rfl, rfl, rfl, rfl, rfl, rfl, rfl, rfl, rfl, rfl, rfl, rfl, trivial⟩ rfl
              · clear ht67
                rcases t67 with b69 | b70
                · have ho := alt_l ho
                  intro g71
                  show ∀ fr h, St _ [(0, .val (rSlice rTask) (p_0)), (3, .val (rPtr rYard) (p_1)), (5, .val (rInt .i64) ((lenI p_1.2.2.1))), (6, .val (rInt .i64) (s42)), (48, .val (rPtr (rSlice (rSlice (rInt .i64)))) (p_1.1)), (49, .val (rSlice (rSlice (rInt .i64))) (p_1.1)), (50, .val (rInt .i64) (s42)), (51, .val (rPtr (rSlice (rInt .i64))) (x52)), (52, .val (rSlice (rInt .i64)) (x52)), (53, .val (rInt .i64) (s42)), (54, .val (rPtr (rInt .i64)) (x53)), (55, .val (rInt .i64) (x53)), (56, .val rBool ((x53 != 0)))] [] fr h → _
                  show SRun ..
                  refine r_region <| mv rfl <| arc rfl (by decide) .add <| sg rfl ?_
                  cases ho
                  exact s_nil fun _ _ s => fz [] s ⟨rfl, rfl, rfl, rfl, trivial⟩ rfl
                · have ho := alt_r ho
                  intro g72
                  show ∀ fr h, St _ [(4, .val rBool (b70))] [] fr h → _
                  cases ho
                  exact id fun _ _ s => fz [] s ⟨rfl, trivial⟩ rfl
        · have ho := cnd0 ho hq44
          cases ho
          exact r_exit fun _ _ s => fz [] s ⟨rfl, rfl, trivial⟩ rfl
      · clear ht73
        rcases t73 with b75 | b76
        · have ho := alt_l ho
          intro g77
          show ∀ fr h, St _ [(0, .val (rSlice rTask) (p_0)), (5, .val (rInt .i64) ((lenI p_1.2.2.1)))] [] fr h → _
          show SRun ..
          refine r_seq <| rr <| sgc (by decide) <| nq <| r_block ?_
          obtain ⟨t138, ht138, ho⟩ := bnd ho
          refine r_loop (σ := (Int)) (τ := Unit ⊕ (Bool)) (G := List AVal) (fun s g => ([(0, .val (rSlice rTask) (p_0)), (5, .val (rInt .i64) ((lenI p_1.2.2.1))), (8, .val (rInt .i64) (s))], [])) (altX (fun b => (.exit 4, fun g => ([], []))) (fun b => (.ret, fun g => ([(4, .val rBool (b))], [])))) _ [] ht138 (fun fr h s => s.pick [] ⟨rfl, rfl, rfl, trivial⟩ rfl (by decide)) ?_ ?_ ?_
          · intro t
            rcases t with t | t
            · exact nx
            · exact nr
          · clear ho
            intro s107 g108 r139 ho
            refine r_seq <| rr <| mv rfl <| mv rfl <| ln S22 rfl rfl rfl (.t rfl) <| cm rfl rfl .lss <| nq <| ct rfl (fun hq109 => ?_) (fun hq109 => ?_)
            · have ho := cnd1 ho hq109
              refine kq rfl <| r_seq <| r_block <| rr <| mv rfl <| mv rfl ?_
              obtain ⟨x110, hx110, ho⟩ := bnd ho
              refine ix S22 hx110 rfl rfl <| ld U87 rfl <| s_alloc (zv := .agg [.int .i64 0, .int .i64 0, .int .i64 0, .int .i64 0]) (es := [.val (rInt .i64) (0), .val (rInt .i64) (0), .val (rInt .i64) (0), .val (rInt .i64) (0)]) (by kernel_rfl) (fun _ => (okint (okint (okint (okint okn))))) rfl (.n rfl) rfl rfl ?_
              intro b111
              refine s_storebs 0 U87 rfl (c1 rfl (c1 rfl (c1 rfl (c1 rfl cells_unit)))) (by rfl) (.n rfl) rfl rfl (.t rfl) (.t rfl) (by rfl) <| s_st (st_freezeb (R := rTask) (a := x110) 0 [9] (c1 rfl (c1 rfl (c1 rfl (c1 rfl cells_unit)))) rfl rfl ⟨rfl, trivial⟩) ?_
              refine nq <| r_seq ?_
              refine r_draw [] (by kernel_rfl) ?_
              refine fa F87_0 fk_Task_0 (by decide) rfl <| ld U3 rfl <| mv rfl <| arc rfl (by decide) .sub ?_
              obtain ⟨y122, hy122, ho⟩ := bnd ho
              refine s_calll (g_ref08_in_ok hy122) (.v flat_bool .n) rfl (.n rfl) rfl rfl rfl .f (.c (.o (.t rfl)) (.c (.o (.i (by decide) (by decide))) (.c (.o (.t rfl)) .n))) ?_
              show SOps ..
              refine s_not (.n rfl) rfl rfl (.t rfl) <| mv rfl ?_
              rcases Bool.eq_false_or_eq_true ((!y122)) with hb123 | hb123
              · have ho := cnd1 ho hb123
                refine skg (gf1 hb123) rfl rfl <| skg (gf1 hb123) rfl rfl <| skg (gf1 hb123) rfl rfl <| skg (gf1 hb123) rfl rfl <| skg (gf1 hb123) rfl rfl <| skg (gf1 hb123) rfl rfl <| pk1 hb123 rfl .b <| mv rfl <| skg rfl rfl rfl <| skg rfl rfl rfl <| skg rfl rfl rfl <| pt rfl .b <| mv rfl <| skg rfl rfl rfl <| skg rfl rfl rfl <| skg rfl rfl rfl <| skg rfl rfl rfl <| skg rfl rfl rfl <| pt rfl .b <| mv rfl <| skg rfl rfl rfl ?_
                refine skg rfl rfl rfl <| skg rfl rfl rfl <| pt rfl .b <| mv rfl <| skg rfl rfl rfl <| skg rfl rfl rfl <| skg rfl rfl rfl <| sku rfl rfl <| sku rfl rfl <| sku rfl rfl <| sku rfl rfl <| sku rfl rfl <| sku rfl rfl <| sku rfl rfl <| sku rfl rfl <| sku rfl rfl <| skg rfl rfl rfl <| pt rfl .b <| nq <| ct rfl (fun _ => ?_) (fun hq => by cases hq)
                refine rr <| sgb <| nq ?_
                cases ho
                exact r_ret fun _ _ s => fz [] s ⟨rfl, trivial⟩ rfl
              · have ho := cnd0 ho hb123
                refine s_fa F87_1 fk_Task_1 (by decide) (.g rfl rfl (gf0 hb123)) rfl rfl (.t rfl) <| ldg U3 (gf0 hb123) rfl rfl rfl <| mvg (gf0 hb123) rfl rfl rfl <| s_ar (.g rfl rfl (gf0 hb123)) rfl rfl (.t rfl) (.i (by decide) (by decide)) .sub ?_
                obtain ⟨y125, hy125, ho⟩ := bnd ho
                refine s_calll (g_ref08_in_ok hy125) (.v flat_bool .n) rfl (.g rfl rfl (gf0 hb123)) rfl rfl rfl .f (.c (.o (.t rfl)) (.c (.o (.i (by decide) (by decide))) (.c (.o (.t rfl)) .n))) ?_
                show SOps ..
                refine s_not (.g rfl rfl (gf0 hb123)) rfl rfl (.t rfl) <| pk0 hb123 rfl (.t rfl) <| mv rfl ?_
                rcases Bool.eq_false_or_eq_true ((!y125)) with hb126 | hb126
                · have ho := cnd1 ho hb126
                  refine skg (gf1 hb126) rfl rfl <| skg (gf1 hb126) rfl rfl <| skg (gf1 hb126) rfl rfl <| pk1 hb126 rfl .b <| mv rfl <| skg rfl rfl rfl <| skg rfl rfl rfl <| skg rfl rfl rfl <| skg rfl rfl rfl <| skg rfl rfl rfl <| pt rfl .b <| mv rfl <| skg rfl rfl rfl <| skg rfl rfl rfl <| skg rfl rfl rfl <| pt rfl .b <| mv rfl <| skg rfl rfl rfl <| skg rfl rfl rfl <| skg rfl rfl rfl <| sku rfl rfl <| sku rfl rfl <| sku rfl rfl ?_
                  refine sku rfl rfl <| sku rfl rfl <| sku rfl rfl <| sku rfl rfl <| sku rfl rfl <| sku rfl rfl <| skg rfl rfl rfl <| pt rfl .b <| nq <| ct rfl (fun _ => ?_) (fun hq => by cases hq)
                  refine rr <| sgb <| nq ?_
                  cases ho
                  exact r_ret fun _ _ s => fz [] s ⟨rfl, trivial⟩ rfl
                · have ho := cnd0 ho hb126
                  refine s_fa F87_2 fk_Task_2 (by decide) (.g rfl rfl (gf0 hb126)) rfl rfl (.t rfl) <| ldg U3 (gf0 hb126) rfl rfl rfl <| s_cmp (.g rfl rfl (gf0 hb126)) rfl rfl (.t rfl) (.i (by decide) (by decide)) .lss <| pk0 hb126 rfl (.t rfl) <| mv rfl ?_
                  rcases Bool.eq_false_or_eq_true ((decide (x110.2.2.1 < 0))) with hb128 | hb128
                  · have ho := cnd1 ho hb128
                    refine skg (gf1 hb128) rfl rfl <| skg (gf1 hb128) rfl rfl <| skg (gf1 hb128) rfl rfl <| skg (gf1 hb128) rfl rfl <| skg (gf1 hb128) rfl rfl <| pk1 hb128 rfl .b <| mv rfl <| skg rfl rfl rfl <| skg rfl rfl rfl <| skg rfl rfl rfl <| pt rfl .b <| mv rfl <| skg rfl rfl rfl <| skg rfl rfl rfl <| skg rfl rfl rfl <| sku rfl rfl <| sku rfl rfl <| sku rfl rfl <| sku rfl rfl <| sku rfl rfl <| sku rfl rfl <| sku rfl rfl ?_
                    refine sku rfl rfl <| sku rfl rfl <| skg rfl rfl rfl <| pt rfl .b <| nq <| ct rfl (fun _ => ?_) (fun hq => by cases hq)
                    refine rr <| sgb <| nq ?_
                    cases ho
                    exact r_ret fun _ _ s => fz [] s ⟨rfl, trivial⟩ rfl
                  · have ho := cnd0 ho hb128
                    refine s_fa F87_2 fk_Task_2 (by decide) (.g rfl rfl (gf0 hb128)) rfl rfl (.t rfl) <| ldg U3 (gf0 hb128) rfl rfl rfl <| s_fa F87_3 fk_Task_3 (by decide) (.g rfl rfl (gf0 hb128)) rfl rfl (.t rfl) <| ldg U3 (gf0 hb128) rfl rfl rfl <| s_cmp (.g rfl rfl (gf0 hb128)) rfl rfl (.t rfl) (.t rfl) .gtr <| pk0 hb128 rfl (.t rfl) <| mv rfl ?_
                    rcases Bool.eq_false_or_eq_true ((decide (x110.2.2.1 > x110.2.2.2.1))) with hb130 | hb130
                    · have ho := cnd1 ho hb130
                      refine skg (gf1 hb130) rfl rfl <| skg (gf1 hb130) rfl rfl <| skg (gf1 hb130) rfl rfl <| pk1 hb130 rfl .b <| mv rfl <| skg rfl rfl rfl <| skg rfl rfl rfl <| skg rfl rfl rfl <| sku rfl rfl <| sku rfl rfl <| sku rfl rfl <| sku rfl rfl <| sku rfl rfl <| sku rfl rfl <| sku rfl rfl <| sku rfl rfl <| sku rfl rfl <| skg rfl rfl rfl <| pt rfl .b <| nq <| ct rfl (fun _ => ?_) (fun hq => by cases hq)
                      refine rr <| sgb <| nq ?_
                      cases ho
                      exact r_ret fun _ _ s => fz [] s ⟨rfl, trivial⟩ rfl
                    · have ho := cnd0 ho hb130
                      refine s_fa F87_3 fk_Task_3 (by decide) (.g rfl rfl (gf0 hb130)) rfl rfl (.t rfl) <| ldg U3 (gf0 hb130) rfl rfl rfl <| s_cmp (.g rfl rfl (gf0 hb130)) rfl rfl (.t rfl) (.i (by decide) (by decide)) .gtr <| pk0 hb130 rfl (.t rfl) <| mv rfl ?_
                      rcases Bool.eq_false_or_eq_true ((decide (x110.2.2.2.1 > 200000))) with hb132 | hb132
                      · have ho := cnd1 ho hb132
                        refine skg (gf1 hb132) rfl rfl <| skg (gf1 hb132) rfl rfl <| skg (gf1 hb132) rfl rfl <| sku rfl rfl <| sku rfl rfl <| sku rfl rfl <| sku rfl rfl <| sku rfl rfl <| sku rfl rfl <| sku rfl rfl <| sku rfl rfl <| sku rfl rfl <| skg (gf1 hb132) rfl rfl <| pk1 hb132 rfl .b <| nq <| ct rfl (fun _ => ?_) (fun hq => by cases hq)
                        refine rr <| sgb <| nq ?_
                        cases ho
                        exact r_ret fun _ _ s => fz [] s ⟨rfl, trivial⟩ rfl
                      · have ho := cnd0 ho hb132
                        refine mvg (gf0 hb132) rfl rfl rfl <| s_cmp (.g rfl rfl (gf0 hb132)) rfl rfl (.t rfl) (.i (by decide) (by decide)) .gtr <| mvg (gf0 hb132) rfl rfl rfl ?_
                        rcases Bool.eq_false_or_eq_true ((decide (s107 > 0))) with hb134 | hb134
                        · have ho := cnd1 ho hb134
                          refine s_fa F87_2 fk_Task_2 (by decide) (.g rfl rfl (gt1 hb134)) rfl rfl (.t rfl) <| ldg U3 (gt1 hb134) rfl rfl rfl <| mvg (gt1 hb134) rfl rfl rfl <| mvg (gt1 hb134) rfl rfl rfl <| s_ar (.g rfl rfl (gt1 hb134)) rfl rfl (.t rfl) (.i (by decide) (by decide)) .sub ?_
                          obtain ⟨x135, hx135, ho⟩ := bnd ho
                          refine s_idx S22 hx135 (.g rfl rfl (gt1 hb134)) rfl rfl (.t rfl) (.t rfl) <| s_fa F87_2 fk_Task_2 (by decide) (.g rfl rfl (gt1 hb134)) rfl rfl (.t rfl) <| ldg U3 (gt1 hb134) rfl rfl rfl <| s_cmp (.g rfl rfl (gt1 hb134)) rfl rfl (.t rfl) (.t rfl) .lss <| s_pk1 hb134 (.g rfl rfl (gf0 hb132)) rfl rfl (.t rfl) (.t rfl) <| pk0 hb132 rfl (.t rfl) <| nq <| ct rfl (fun hq136 => ?_) (fun hq136 => ?_)
                          · have ho := cnd1 ho hq136
                            refine rr <| sgb <| nq ?_
                            cases ho
                            exact r_ret fun _ _ s => fz [] s ⟨rfl, trivial⟩ rfl
                          · have ho := cnd0 ho hq136
                            refine kq rfl <| r_region <| mv rfl <| arc rfl (by decide) .add <| sg rfl ?_
                            cases ho
                            exact s_nil fun _ _ s => fz [] s ⟨rfl, rfl, rfl, trivial⟩ rfl
                        · have ho := cnd0 ho hb134
                          refine skg (gt0 hb134) rfl rfl <| skg (gt0 hb134) rfl rfl <| skg (gt0 hb134) rfl rfl <| skg (gt0 hb134) rfl rfl <| skg (gt0 hb134) rfl rfl <| skg (gt0 hb134) rfl rfl <| skg (gt0 hb134) rfl rfl <| skg (gt0 hb134) rfl rfl <| skg (gt0 hb134) rfl rfl <| s_pk0 hb134 (.g rfl rfl (gf0 hb132)) rfl rfl (.t rfl) .b <| pk0 hb132 rfl (.t rfl) <| nq <| ct rfl (fun hq => by cases hq) (fun _ => ?_)
                          refine kq rfl <| r_region <| mv rfl <| arc rfl (by decide) .add <| sg rfl ?_
                          cases ho
                          exact s_nil fun _ _ s => fz [] s ⟨rfl, rfl, rfl, trivial⟩ rfl
            · have ho := cnd0 ho hq109
              cases ho
              exact r_exit fun _ _ s => fz [] s trivial rfl
          · clear ht138
            rcases t138 with b140 | b141
            · have ho := alt_l ho
              intro g142
              show ∀ fr h, St _ [] [] fr h → _
              show SRun ..
              refine rr <| sgb <| nq ?_
              cases ho
              exact r_ret (ret_of (.inr rfl) (.v rfl .n) (by decide))
            · have ho := alt_r ho
              intro g143
              show ∀ fr h, St _ [(4, .val rBool (b141))] [] fr h → _
              cases ho
              exact id (ret_of (.inr rfl) (.v rfl .n) (by decide))
        · have ho := alt_r ho
          intro g144
          show ∀ fr h, St _ [(4, .val rBool (b76))] [] fr h → _
          cases ho
          exact id (ret_of (.inr rfl) (.v rfl .n) (by decide))
theorem g_ref08_Follows_ok {tasks_0 : (List Task)} {y_1 : Yard} {a_2 : Int} {b_3 : Int} {out : (Bool)} (ho : g_ref08_Follows tasks_0 y_1 a_2 b_3 = some out) : Fun ktab 31 [.val (rSlice rTask) tasks_0, .val rYard y_1, .val (rInt .i64) a_2, .val (rInt .i64) b_3] [.val rBool (out)] := by
  refine fun_of (F := Try.f31) (by rfl) (by rfl) (by rfl) (fun C hC => ?_)
  delta g_ref08_Follows at ho
  refine rr <| bx rfl <| sgb <| nq <| r_seq ?_
  refine r_draw [] (by kernel_rfl) ?_
  refine fa F26_0 fk_Yard_0 (by decide) rfl <| ld U23 rfl <| mv rfl <| mv rfl ?_
  obtain ⟨x1, hx1, ho⟩ := bnd ho
  refine ix S22 hx1 rfl rfl <| fa F87_1 fk_Task_1 (by decide) rfl <| ld U3 rfl ?_
  obtain ⟨x2, hx2, ho⟩ := bnd ho
  refine ix S23 hx2 rfl rfl <| ld U29 rfl <| mv rfl <| mv rfl ?_
  obtain ⟨x3, hx3, ho⟩ := bnd ho
  refine ix S22 hx3 rfl rfl <| fa F87_0 fk_Task_0 (by decide) rfl <| ld U3 rfl ?_
  obtain ⟨x4, hx4, ho⟩ := bnd ho
  refine ix S29 hx4 rfl rfl <| ld U3 rfl <| sg rfl <| nq <| r_seq ?_
  obtain ⟨c9, hc9, ho⟩ := bnd ho
  refine r_cut (τ := (Bool)) (G := Unit) (fun t => (.normal, fun _ => ([(8, .val rBool (t))], []))) (t := c9) ?_ ?_
  · have ho := hc9
    clear hc9
    refine r_draw [] (by kernel_rfl) ?_
    refine mv rfl <| mv rfl <| cm rfl rfl .lss <| mv rfl ?_
    rcases Bool.eq_false_or_eq_true ((decide (a_2 < b_3))) with hb10 | hb10
    · have ho := cnd1 ho hb10
      refine mvg (gt1 hb10) rfl rfl rfl <| s_cmp (.g rfl rfl (gt1 hb10)) rfl rfl (.t rfl) (.i (by decide) (by decide)) .geq <| pk1 hb10 rfl (.t rfl) <| mv rfl ?_
      rcases Bool.eq_false_or_eq_true ((decide (x4 ≥ 0))) with hb11 | hb11
      · have ho := cnd1 ho hb11
        refine mvg (gt1 hb11) rfl rfl rfl <| mvg (gt1 hb11) rfl rfl rfl ?_
        obtain ⟨x12, hx12, ho⟩ := bnd ho
        refine s_idx S22 hx12 (.g rfl rfl (gt1 hb11)) rfl rfl (.t rfl) (.t rfl) <| s_fa F87_3 fk_Task_3 (by decide) (.g rfl rfl (gt1 hb11)) rfl rfl (.t rfl) <| ldg U3 (gt1 hb11) rfl rfl rfl <| s_fa F26_1 fk_Yard_1 (by decide) (.g rfl rfl (gt1 hb11)) rfl rfl (.t rfl) <| ldg U3 (gt1 hb11) rfl rfl rfl <| s_ar (.g rfl rfl (gt1 hb11)) rfl rfl (.t rfl) (.t rfl) .add <| mvg (gt1 hb11) rfl rfl rfl <| s_ar (.g rfl rfl (gt1 hb11)) rfl rfl (.t rfl) (.t rfl) .add ?_
        refine mvg (gt1 hb11) rfl rfl rfl <| mvg (gt1 hb11) rfl rfl rfl ?_
        obtain ⟨x13, hx13, ho⟩ := bnd ho
        refine s_idx S22 hx13 (.g rfl rfl (gt1 hb11)) rfl rfl (.t rfl) (.t rfl) <| s_fa F87_2 fk_Task_2 (by decide) (.g rfl rfl (gt1 hb11)) rfl rfl (.t rfl) <| ldg U3 (gt1 hb11) rfl rfl rfl <| s_cmp (.g rfl rfl (gt1 hb11)) rfl rfl (.t rfl) (.t rfl) .leq <| pk1 hb11 rfl (.t rfl) <| sg rfl ?_
        cases ho
        exact s_nil fun _ _ s => fz () s ⟨rfl, trivial⟩ rfl
      · have ho := cnd0 ho hb11
        refine skg (gt0 hb11) rfl rfl <| skg (gt0 hb11) rfl rfl <| skg (gt0 hb11) rfl rfl <| skg (gt0 hb11) rfl rfl <| skg (gt0 hb11) rfl rfl <| skg (gt0 hb11) rfl rfl <| skg (gt0 hb11) rfl rfl <| skg (gt0 hb11) rfl rfl <| skg (gt0 hb11) rfl rfl <| skg (gt0 hb11) rfl rfl <| skg (gt0 hb11) rfl rfl <| skg (gt0 hb11) rfl rfl <| skg (gt0 hb11) rfl rfl <| skg (gt0 hb11) rfl rfl <| skg (gt0 hb11) rfl rfl <| skg (gt0 hb11) rfl rfl ?_
        refine pk0 hb11 rfl .b <| sg rfl ?_
        cases ho
        exact s_nil fun _ _ s => fz () s ⟨rfl, trivial⟩ rfl
    · have ho := cnd0 ho hb10
      refine skg (gt0 hb10) rfl rfl <| skg (gt0 hb10) rfl rfl <| pk0 hb10 rfl .b <| mv rfl <| skg rfl rfl rfl <| skg rfl rfl rfl <| skg rfl rfl rfl <| skg rfl rfl rfl <| skg rfl rfl rfl <| skg rfl rfl rfl <| skg rfl rfl rfl <| skg rfl rfl rfl <| skg rfl rfl rfl <| skg rfl rfl rfl <| skg rfl rfl rfl <| skg rfl rfl rfl <| skg rfl rfl rfl <| skg rfl rfl rfl <| skg rfl rfl rfl <| skg rfl rfl rfl <| s_pick0 (.n rfl) rfl rfl (.t rfl) .b ?_
      refine sg rfl ?_
      cases ho
      exact s_nil fun _ _ s => fz () s ⟨rfl, trivial⟩ rfl
  · intro _
    show SRun ..
    cases ho
    exact r_ret (ret_of (.inr rfl) (.v rfl .n) (by decide))
theorem g_law08_plans_ok {cars_0 : (List (List Int))} {out : (Bool)} (ho : g_law08_plans cars_0 = some out) : Fun ktab 21 [.val (rSlice (rSlice (rInt .i64))) cars_0] [.val rBool (out)] := by
  refine fun_of (F := Try.f21) (by rfl) (by rfl) (by rfl) (fun C hC => ?_)
  delta g_law08_plans at ho
  refine rr <| sgb <| nq <| r_seq <| rr <| sgc (by decide) <| nq <| r_block ?_
  obtain ⟨t9, ht9, ho⟩ := bnd ho
  refine r_loop (σ := (Int)) (τ := Unit ⊕ (Bool)) (G := List AVal) (fun s g => ([(0, .val (rSlice (rSlice (rInt .i64))) (cars_0)), (3, .val (rInt .i64) (s))], [])) (altX (fun b => (.exit 0, fun g => ([(0, .val (rSlice (rSlice (rInt .i64))) (cars_0))], []))) (fun b => (.ret, fun g => ([(2, .val rBool (b))], [])))) _ [] ht9 (fun fr h s => s.pick [] ⟨rfl, rfl, trivial⟩ rfl (by decide)) ?_ ?_ ?_
  · intro t
    rcases t with t | t
    · exact nx
    · exact nr
  · clear ho
    intro s4 g5 r10 ho
    refine r_seq <| rr <| mv rfl <| mv rfl <| ln S23 rfl rfl rfl (.t rfl) <| cm rfl rfl .lss <| nq <| ct rfl (fun hq6 => ?_) (fun hq6 => ?_)
    · have ho := cnd1 ho hq6
      refine kq rfl <| r_seq <| r_block <| rr <| mv rfl <| mv rfl ?_
      obtain ⟨x7, hx7, ho⟩ := bnd ho
      refine ix S23 hx7 rfl rfl <| ld U29 rfl <| ln S29 rfl rfl rfl (.t rfl) <| cmc rfl (by decide) .gtr <| nq <| ct rfl (fun hq8 => ?_) (fun hq8 => ?_)
      · have ho := cnd1 ho hq8
        refine rr <| sgb <| nq ?_
        cases ho
        exact r_ret fun _ _ s => fz [] s ⟨rfl, trivial⟩ rfl
      · have ho := cnd0 ho hq8
        refine kq rfl <| r_region <| mv rfl <| arc rfl (by decide) .add <| sg rfl ?_
        cases ho
        exact s_nil fun _ _ s => fz [] s ⟨rfl, rfl, trivial⟩ rfl
    · have ho := cnd0 ho hq6
      cases ho
      exact r_exit fun _ _ s => fz [] s ⟨rfl, trivial⟩ rfl
  · clear ht9
    rcases t9 with b11 | b12
    · have ho := alt_l ho
      intro g13
      show ∀ fr h, St _ [(0, .val (rSlice (rSlice (rInt .i64))) (cars_0))] [] fr h → _
      show SRun ..
      refine rr <| mv rfl <| ln S23 rfl rfl rfl (.t rfl) <| cmc rfl (by decide) .leq <| sg rfl <| nq ?_
      cases ho
      exact r_ret (ret_of (.inr rfl) (.v rfl .n) (by decide))
    · have ho := alt_r ho
      intro g14
      show ∀ fr h, St _ [(2, .val rBool (b12))] [] fr h → _
      cases ho
      exact id (ret_of (.inr rfl) (.v rfl .n) (by decide))
theorem g_ref08_Plan_ok {p_0 : (List Task)} {p_1 : Yard} {p_2 : (List (List Int))} {out : (Bool)} (ho : g_ref08_Plan p_0 p_1 p_2 = some out) : Fun ktab 23 [.val (rSlice rTask) p_0, .val rYard p_1, .val (rSlice (rSlice (rInt .i64))) p_2] [.val rBool (out)] := by
  refine fun_of (F := Try.f23) (by rfl) (by rfl) (by rfl) (fun C hC => ?_)
  delta g_ref08_Plan at ho
  refine rr <| bx rfl <| sgb <| nq <| rr <| mv rfl <| ln S22 rfl rfl rfl (.t rfl) ?_
  obtain ⟨x1, hx1, ho⟩ := bnd ho
  refine s_mk S24 Y4 Z4 hx1 (.n rfl) rfl rfl (.t rfl) (.t rfl) ?_
  intro v2
  refine sg rfl <| nq <| rr <| sgc (by decide) <| nq <| r_seq <| rr <| sgc (by decide) <| nq <| r_block ?_
  obtain ⟨t309, ht309, ho⟩ := bnd ho
  refine r_loop (σ := (Int × Int × (List Bool))) (τ := (Int × (List Bool)) ⊕ (Bool)) (G := List AVal) (fun s g => ([(0, .val (rSlice rTask) (p_0)), (2, .val (rSlice (rSlice (rInt .i64))) (p_2)), (4, .val (rPtr rYard) (p_1)), (7, .raw v2), (8, .val (rInt .i64) (s.1)), (9, .val (rInt .i64) (s.2.1))], [(v2, .row rBool (s.2.2))])) (altX (fun b => (.exit 0, fun g => ([(0, .val (rSlice rTask) (p_0)), (8, .val (rInt .i64) (b.1))], []))) (fun b => (.ret, fun g => ([(6, .val rBool (b))], [])))) _ [] ht309 (fun fr h s => s.pick [0] ⟨rfl, rfl, rfl, rfl, rfl, rfl, trivial⟩ rfl (by decide)) ?_ ?_ ?_
  · intro t
    rcases t with t | t
    · exact nx
    · exact nr
  · clear ho
    intro s206 g207 r310 ho
    refine r_seq <| rr <| mv rfl <| mv rfl <| ln S23 rfl rfl rfl (.t rfl) <| cm rfl rfl .lss <| nq <| ct rfl (fun hq208 => ?_) (fun hq208 => ?_)
    · have ho := cnd1 ho hq208
      refine kq rfl <| r_seq <| r_block <| r_seq <| rr <| mv rfl <| mv rfl ?_
      obtain ⟨x209, hx209, ho⟩ := bnd ho
      refine ix S23 hx209 rfl rfl <| ld U29 rfl <| ln S29 rfl rfl rfl (.t rfl) <| cmc rfl (by decide) .eql <| nq <| ct rfl (fun hq210 => ?_) (fun hq210 => ?_)
      · have ho := cnd1 ho hq210
        refine rr <| sgb <| nq ?_
        cases ho
        exact r_ret fun _ _ s => fz [] s ⟨rfl, trivial⟩ rfl
      · have ho := cnd0 ho hq210
        refine kq rfl <| r_seq <| rr <| sgc (by decide) <| nq <| r_block ?_
        obtain ⟨t291, ht291, ho⟩ := bnd ho
        refine r_loop (σ := (Int × Int × (List Bool))) (τ := (Int × (List Bool)) ⊕ (Bool × (List Bool))) (G := List AVal) (fun s g => ([(0, .val (rSlice rTask) (p_0)), (2, .val (rSlice (rSlice (rInt .i64))) (p_2)), (4, .val (rPtr rYard) (p_1)), (7, .raw v2), (8, .val (rInt .i64) (s.1)), (9, .val (rInt .i64) (s206.2.1)), (10, .val (rInt .i64) (s.2.1))], [(v2, .row rBool (s.2.2))])) (altX (fun b => (.exit 2, fun g => ([(0, .val (rSlice rTask) (p_0)), (2, .val (rSlice (rSlice (rInt .i64))) (p_2)), (4, .val (rPtr rYard) (p_1)), (7, .raw v2), (8, .val (rInt .i64) (b.1)), (9, .val (rInt .i64) (s206.2.1))], [(v2, .row rBool (b.2))]))) (fun b => (.ret, fun g => ([(6, .val rBool (b.1))], [])))) _ [] ht291 (fun fr h s => s.pick [0] ⟨rfl, rfl, rfl, rfl, rfl, rfl, rfl, trivial⟩ rfl (by decide)) ?_ ?_ ?_
        · intro t
          rcases t with t | t
          · exact nx
          · exact nr
        · clear ho
          intro s263 g264 r292 ho
          refine r_seq <| rr <| mv rfl <| mv rfl <| mv rfl ?_
          obtain ⟨x265, hx265, ho⟩ := bnd ho
          refine ix S23 hx265 rfl rfl <| ld U29 rfl <| ln S29 rfl rfl rfl (.t rfl) <| cm rfl rfl .lss <| nq <| ct rfl (fun hq266 => ?_) (fun hq266 => ?_)
          · have ho := cnd1 ho hq266
            refine kq rfl <| r_seq <| r_block <| rr <| mv rfl <| mv rfl ?_
            obtain ⟨x267, hx267, ho⟩ := bnd ho
            refine ix S23 hx267 rfl rfl <| ld U29 rfl <| mv rfl ?_
            obtain ⟨x268, hx268, ho⟩ := bnd ho
            refine ix S29 hx268 rfl rfl <| ld U3 rfl <| sg rfl <| nq <| r_seq <| r_seq ?_
            refine r_draw [10] (by kernel_rfl) ?_
            refine mv rfl <| mv rfl <| ln S22 rfl rfl rfl (.t rfl) <| arc rfl (by decide) .sub ?_
            obtain ⟨y277, hy277, ho⟩ := bnd ho
            refine s_calll (g_ref08_in_ok hy277) (.v flat_bool .n) rfl (.n rfl) rfl rfl rfl .f (.c (.o (.t rfl)) (.c (.o (.i (by decide) (by decide))) (.c (.o (.t rfl)) .n))) ?_
            show SOps ..
            refine s_not (.n rfl) rfl rfl (.t rfl) <| mv rfl ?_
            rcases Bool.eq_false_or_eq_true ((!y277)) with hb278 | hb278
            · have ho := cnd1 ho hb278
              refine skg (gf1 hb278) rfl rfl <| skg (gf1 hb278) rfl rfl <| skg (gf1 hb278) rfl rfl <| skg (gf1 hb278) rfl rfl <| pk1 hb278 rfl .b <| mv rfl <| skg rfl rfl rfl <| skg rfl rfl rfl <| skg rfl rfl rfl <| sku rfl rfl <| sku rfl rfl <| sku rfl rfl <| sku rfl rfl <| sku rfl rfl <| sku rfl rfl <| sku rfl rfl <| sku rfl rfl <| sku rfl rfl <| sku rfl rfl <| sku rfl rfl <| sku rfl rfl <| sku rfl rfl <| skg rfl rfl rfl ?_
              refine pt rfl .b <| nq <| ct rfl (fun _ => ?_) (fun hq => by cases hq)
              refine rr <| sgb <| nq ?_
              cases ho
              exact r_ret fun _ _ s => fz [] s ⟨rfl, trivial⟩ rfl
            · have ho := cnd0 ho hb278
              refine mvg (gf0 hb278) rfl rfl rfl <| mvg (gf0 hb278) rfl rfl rfl ?_
              obtain ⟨x280, hx280, ho⟩ := bnd ho
              refine s_idxo 0 S24 hx280 (.g rfl rfl (gf0 hb278)) rfl rfl (.t rfl) rfl (.t rfl) <| s_loado 0 (fun _ h => by cases h <;> rfl) U4 FOk.self (idx_inv hx280).2.2.2 (.g rfl rfl (gf0 hb278)) rfl rfl (.t rfl) rfl <| pk0 hb278 rfl (.t rfl) <| mv rfl ?_
              rcases Bool.eq_false_or_eq_true (x280) with hb281 | hb281
              · have ho := cnd1 ho hb281
                refine skg (gf1 hb281) rfl rfl <| skg (gf1 hb281) rfl rfl <| skg (gf1 hb281) rfl rfl <| sku rfl rfl <| sku rfl rfl <| sku rfl rfl <| sku rfl rfl <| sku rfl rfl <| sku rfl rfl <| sku rfl rfl <| sku rfl rfl <| sku rfl rfl <| sku rfl rfl <| sku rfl rfl <| sku rfl rfl <| sku rfl rfl <| skg (gf1 hb281) rfl rfl <| pk1 hb281 rfl .b <| nq <| ct rfl (fun _ => ?_) (fun hq => by cases hq)
                refine rr <| sgb <| nq ?_
                cases ho
                exact r_ret fun _ _ s => fz [] s ⟨rfl, trivial⟩ rfl
              · have ho := cnd0 ho hb281
                refine mvg (gf0 hb281) rfl rfl rfl <| s_cmp (.g rfl rfl (gf0 hb281)) rfl rfl (.t rfl) (.i (by decide) (by decide)) .gtr <| mvg (gf0 hb281) rfl rfl rfl ?_
                rcases Bool.eq_false_or_eq_true ((decide (s263.2.1 > 0))) with hb283 | hb283
                · have ho := cnd1 ho hb283
                  refine mvg (gt1 hb283) rfl rfl rfl <| ldg U26 (gt1 hb283) rfl rfl rfl <| mvg (gt1 hb283) rfl rfl rfl <| mvg (gt1 hb283) rfl rfl rfl ?_
                  obtain ⟨x284, hx284, ho⟩ := bnd ho
                  refine s_idx S23 hx284 (.g rfl rfl (gt1 hb283)) rfl rfl (.t rfl) (.t rfl) <| ldg U29 (gt1 hb283) rfl rfl rfl <| mvg (gt1 hb283) rfl rfl rfl <| s_ar (.g rfl rfl (gt1 hb283)) rfl rfl (.t rfl) (.i (by decide) (by decide)) .sub ?_
                  obtain ⟨x285, hx285, ho⟩ := bnd ho
                  refine s_idx S29 hx285 (.g rfl rfl (gt1 hb283)) rfl rfl (.t rfl) (.t rfl) <| ldg U3 (gt1 hb283) rfl rfl rfl <| mvg (gt1 hb283) rfl rfl rfl ?_
                  obtain ⟨y286, hy286, ho⟩ := bnd ho
                  refine s_calll (g_ref08_Follows_ok hy286) (.v flat_bool .n) rfl (.g rfl rfl (gt1 hb283)) rfl rfl rfl .f (.c (.o (.t rfl)) (.c (.o (.t rfl)) (.c (.o (.t rfl)) (.c (.o (.t rfl)) .n)))) ?_
                  show SOps ..
                  refine s_not (.g rfl rfl (gt1 hb283)) rfl rfl (.t rfl) <| s_pk1 hb283 (.g rfl rfl (gf0 hb281)) rfl rfl (.t rfl) (.t rfl) <| pk0 hb281 rfl (.t rfl) <| nq <| ct rfl (fun hq287 => ?_) (fun hq287 => ?_)
                  · have ho := cnd1 ho hq287
                    refine rr <| sgb <| nq ?_
                    cases ho
                    exact r_ret fun _ _ s => fz [] s ⟨rfl, trivial⟩ rfl
                  · have ho := cnd0 ho hq287
                    refine kq rfl <| rr <| mv rfl <| mv rfl ?_
                    obtain ⟨x288, hx288, ho⟩ := bnd ho
                    refine s_idxo 0 S24 hx288 (.n rfl) rfl rfl (.t rfl) rfl (.t rfl) <| s_storeo 0 U4 FOk.self (idx_inv hx288).2.2.2 (.n rfl) rfl rfl (.t rfl) .b rfl rfl <| nq <| r_region <| mv rfl <| arc rfl (by decide) .add <| sg rfl <| nq <| r_region <| mv rfl <| arc rfl (by decide) .add <| sg rfl ?_
                    cases ho
                    exact s_nil (fun fr h s => And.intro rfl (Exists.intro [] (s.pick [0] ⟨rfl, rfl, rfl, rfl, rfl, rfl, rfl, trivial⟩ rfl (by decide))))
                · have ho := cnd0 ho hb283
                  refine skg (gt0 hb283) rfl rfl <| skg (gt0 hb283) rfl rfl <| skg (gt0 hb283) rfl rfl <| skg (gt0 hb283) rfl rfl <| skg (gt0 hb283) rfl rfl <| skg (gt0 hb283) rfl rfl <| skg (gt0 hb283) rfl rfl <| skg (gt0 hb283) rfl rfl <| skg (gt0 hb283) rfl rfl <| skg (gt0 hb283) rfl rfl <| skg (gt0 hb283) rfl rfl <| skg (gt0 hb283) rfl rfl <| skg (gt0 hb283) rfl rfl <| s_pk0 hb283 (.g rfl rfl (gf0 hb281)) rfl rfl (.t rfl) .b ?_
                  refine pk0 hb281 rfl (.t rfl) <| nq <| ct rfl (fun hq => by cases hq) (fun _ => ?_)
                  refine kq rfl <| rr <| mv rfl <| mv rfl ?_
                  obtain ⟨x290, hx290, ho⟩ := bnd ho
                  refine s_idxo 0 S24 hx290 (.n rfl) rfl rfl (.t rfl) rfl (.t rfl) <| s_storeo 0 U4 FOk.self (idx_inv hx290).2.2.2 (.n rfl) rfl rfl (.t rfl) .b rfl rfl <| nq <| r_region <| mv rfl <| arc rfl (by decide) .add <| sg rfl <| nq <| r_region <| mv rfl <| arc rfl (by decide) .add <| sg rfl ?_
                  cases ho
                  exact s_nil (fun fr h s => And.intro rfl (Exists.intro [] (s.pick [0] ⟨rfl, rfl, rfl, rfl, rfl, rfl, rfl, trivial⟩ rfl (by decide))))
          · have ho := cnd0 ho hq266
            cases ho
            exact r_exit (fun fr h s => And.intro rfl (Exists.intro [] (s.pick [0] ⟨rfl, rfl, rfl, rfl, rfl, rfl, trivial⟩ rfl (by decide))))
        · clear ht291
          rcases t291 with b293 | b294
          · have ho := alt_l ho
            intro g295
            show ∀ fr h, St _ [(0, .val (rSlice rTask) (p_0)), (2, .val (rSlice (rSlice (rInt .i64))) (p_2)), (4, .val (rPtr rYard) (p_1)), (7, .raw v2), (8, .val (rInt .i64) (b293.1)), (9, .val (rInt .i64) (s206.2.1))] [(v2, .row rBool (b293.2))] fr h → _
            show SRun ..
            refine r_seq ?_
            refine r_draw [] (by kernel_rfl) ?_
            refine mv rfl <| cmc rfl (by decide) .gtr <| mv rfl ?_
            rcases Bool.eq_false_or_eq_true ((decide (s206.2.1 > 0))) with hb301 | hb301
            · have ho := cnd1 ho hb301
              refine mvg (gt1 hb301) rfl rfl rfl <| mvg (gt1 hb301) rfl rfl rfl ?_
              obtain ⟨x302, hx302, ho⟩ := bnd ho
              refine s_idx S23 hx302 (.g rfl rfl (gt1 hb301)) rfl rfl (.t rfl) (.t rfl) <| ldg U29 (gt1 hb301) rfl rfl rfl ?_
              obtain ⟨x303, hx303, ho⟩ := bnd ho
              refine s_idx S29 hx303 (.g rfl rfl (gt1 hb301)) rfl rfl (.t rfl) (.i (by decide) (by decide)) <| ldg U3 (gt1 hb301) rfl rfl rfl <| mvg (gt1 hb301) rfl rfl rfl <| mvg (gt1 hb301) rfl rfl rfl <| s_ar (.g rfl rfl (gt1 hb301)) rfl rfl (.t rfl) (.i (by decide) (by decide)) .sub ?_
              obtain ⟨x304, hx304, ho⟩ := bnd ho
              refine s_idx S23 hx304 (.g rfl rfl (gt1 hb301)) rfl rfl (.t rfl) (.t rfl) <| ldg U29 (gt1 hb301) rfl rfl rfl ?_
              obtain ⟨x305, hx305, ho⟩ := bnd ho
              refine s_idx S29 hx305 (.g rfl rfl (gt1 hb301)) rfl rfl (.t rfl) (.i (by decide) (by decide)) <| ldg U3 (gt1 hb301) rfl rfl rfl <| s_cmp (.g rfl rfl (gt1 hb301)) rfl rfl (.t rfl) (.t rfl) .leq <| pk1 hb301 rfl (.t rfl) <| nq <| ct rfl (fun hq306 => ?_) (fun hq306 => ?_)
              · have ho := cnd1 ho hq306
                refine rr <| sgb <| nq ?_
                cases ho
                exact r_ret fun _ _ s => fz [] s ⟨rfl, trivial⟩ rfl
              · have ho := cnd0 ho hq306
                refine kq rfl <| r_region <| mv rfl <| arc rfl (by decide) .add <| sg rfl ?_
                cases ho
                exact s_nil (fun fr h s => And.intro rfl (Exists.intro [] (s.pick [0] ⟨rfl, rfl, rfl, rfl, rfl, rfl, trivial⟩ rfl (by decide))))
            · have ho := cnd0 ho hb301
              refine skg (gt0 hb301) rfl rfl <| skg (gt0 hb301) rfl rfl <| skg (gt0 hb301) rfl rfl <| skg (gt0 hb301) rfl rfl <| skg (gt0 hb301) rfl rfl <| skg (gt0 hb301) rfl rfl <| skg (gt0 hb301) rfl rfl <| skg (gt0 hb301) rfl rfl <| skg (gt0 hb301) rfl rfl <| skg (gt0 hb301) rfl rfl <| skg (gt0 hb301) rfl rfl <| skg (gt0 hb301) rfl rfl <| skg (gt0 hb301) rfl rfl <| skg (gt0 hb301) rfl rfl <| pk0 hb301 rfl .b <| nq ?_
              refine ct rfl (fun hq => by cases hq) (fun _ => ?_)
              refine kq rfl <| r_region <| mv rfl <| arc rfl (by decide) .add <| sg rfl ?_
              cases ho
              exact s_nil (fun fr h s => And.intro rfl (Exists.intro [] (s.pick [0] ⟨rfl, rfl, rfl, rfl, rfl, rfl, trivial⟩ rfl (by decide))))
          · have ho := alt_r ho
            intro g308
            show ∀ fr h, St _ [(6, .val rBool (b294.1))] [] fr h → _
            cases ho
            exact id fun _ _ s => fz [] s ⟨rfl, trivial⟩ rfl
    · have ho := cnd0 ho hq208
      cases ho
      exact r_exit fun _ _ s => fz [] s ⟨rfl, rfl, trivial⟩ rfl
  · clear ht309
    rcases t309 with b311 | b312
    · have ho := alt_l ho
      intro g313
      show ∀ fr h, St _ [(0, .val (rSlice rTask) (p_0)), (8, .val (rInt .i64) (b311.1))] [] fr h → _
      show SRun ..
      refine rr <| mv rfl <| mv rfl <| ln S22 rfl rfl rfl (.t rfl) <| cm rfl rfl .eql <| sg rfl <| nq ?_
      cases ho
      exact r_ret (ret_of (.inr rfl) (.v rfl .n) (by decide))
    · have ho := alt_r ho
      intro g314
      show ∀ fr h, St _ [(6, .val rBool (b312))] [] fr h → _
      cases ho
      exact id (ret_of (.inr rfl) (.v rfl .n) (by decide))
theorem g_ref08_Rules_ok {w_0 : WorkRules} {out : (Bool)} (ho : g_ref08_Rules w_0 = some out) : Fun ktab 24 [.val rWorkRules w_0] [.val rBool (out)] := by
  refine fun_of (F := Try.f24) (by rfl) (by rfl) (by rfl) (fun C hC => ?_)
  delta g_ref08_Rules at ho
  refine rr <| bx rfl <| sgb <| nq <| r_seq ?_
  obtain ⟨c12, hc12, ho⟩ := bnd ho
  refine r_cut (τ := (Bool)) (G := Unit) (fun t => (.normal, fun _ => ([(2, .val rBool (t))], []))) (t := c12) ?_ ?_
  · have ho := hc12
    clear hc12
    refine r_region <| fa F42_0 fk_WorkRules_0 (by decide) rfl <| ld U3 rfl ?_
    obtain ⟨y13, hy13, ho⟩ := bnd ho
    refine s_calll (g_ref08_in_ok hy13) (.v flat_bool .n) rfl (.n rfl) rfl rfl rfl .f (.c (.o (.t rfl)) (.c (.o (.i (by decide) (by decide))) (.c (.o (.i (by decide) (by decide))) .n))) ?_
    show SOps ..
    refine mv rfl ?_
    rcases Bool.eq_false_or_eq_true (y13) with hb14 | hb14
    · have ho := cnd1 ho hb14
      refine s_fa F42_1 fk_WorkRules_1 (by decide) (.g rfl rfl (gt1 hb14)) rfl rfl (.t rfl) <| ldg U3 (gt1 hb14) rfl rfl rfl ?_
      obtain ⟨y15, hy15, ho⟩ := bnd ho
      refine s_calll (g_ref08_in_ok hy15) (.v flat_bool .n) rfl (.g rfl rfl (gt1 hb14)) rfl rfl rfl .f (.c (.o (.t rfl)) (.c (.o (.i (by decide) (by decide))) (.c (.o (.i (by decide) (by decide))) .n))) ?_
      show SOps ..
      refine pk1 hb14 rfl (.t rfl) <| mv rfl ?_
      rcases Bool.eq_false_or_eq_true (y15) with hb16 | hb16
      · have ho := cnd1 ho hb16
        refine s_fa F42_2 fk_WorkRules_2 (by decide) (.g rfl rfl (gt1 hb16)) rfl rfl (.t rfl) <| ldg U3 (gt1 hb16) rfl rfl rfl ?_
        obtain ⟨y17, hy17, ho⟩ := bnd ho
        refine s_calll (g_ref08_in_ok hy17) (.v flat_bool .n) rfl (.g rfl rfl (gt1 hb16)) rfl rfl rfl .f (.c (.o (.t rfl)) (.c (.o (.i (by decide) (by decide))) (.c (.o (.i (by decide) (by decide))) .n))) ?_
        show SOps ..
        refine pk1 hb16 rfl (.t rfl) <| mv rfl ?_
        rcases Bool.eq_false_or_eq_true (y17) with hb18 | hb18
        · have ho := cnd1 ho hb18
          refine s_fa F42_3 fk_WorkRules_3 (by decide) (.g rfl rfl (gt1 hb18)) rfl rfl (.t rfl) <| ldg U3 (gt1 hb18) rfl rfl rfl ?_
          obtain ⟨y19, hy19, ho⟩ := bnd ho
          refine s_calll (g_ref08_in_ok hy19) (.v flat_bool .n) rfl (.g rfl rfl (gt1 hb18)) rfl rfl rfl .f (.c (.o (.t rfl)) (.c (.o (.i (by decide) (by decide))) (.c (.o (.i (by decide) (by decide))) .n))) ?_
          show SOps ..
          refine pk1 hb18 rfl (.t rfl) <| mv rfl ?_
          rcases Bool.eq_false_or_eq_true (y19) with hb20 | hb20
          · have ho := cnd1 ho hb20
            refine s_fa F42_4 fk_WorkRules_4 (by decide) (.g rfl rfl (gt1 hb20)) rfl rfl (.t rfl) <| ldg U3 (gt1 hb20) rfl rfl rfl ?_
            obtain ⟨y21, hy21, ho⟩ := bnd ho
            refine s_calll (g_ref08_in_ok hy21) (.v flat_bool .n) rfl (.g rfl rfl (gt1 hb20)) rfl rfl rfl .f (.c (.o (.t rfl)) (.c (.o (.i (by decide) (by decide))) (.c (.o (.i (by decide) (by decide))) .n))) ?_
            show SOps ..
            refine pk1 hb20 rfl (.t rfl) <| mv rfl ?_
            rcases Bool.eq_false_or_eq_true (y21) with hb22 | hb22
            · have ho := cnd1 ho hb22
              refine s_fa F42_5 fk_WorkRules_5 (by decide) (.g rfl rfl (gt1 hb22)) rfl rfl (.t rfl) <| ldg U3 (gt1 hb22) rfl rfl rfl ?_
              obtain ⟨y23, hy23, ho⟩ := bnd ho
              refine s_calll (g_ref08_in_ok hy23) (.v flat_bool .n) rfl (.g rfl rfl (gt1 hb22)) rfl rfl rfl .f (.c (.o (.t rfl)) (.c (.o (.i (by decide) (by decide))) (.c (.o (.i (by decide) (by decide))) .n))) ?_
              show SOps ..
              refine pk1 hb22 rfl (.t rfl) <| sg rfl ?_
              cases ho
              exact s_nil fun _ _ s => fz () s ⟨rfl, trivial⟩ rfl
            · have ho := cnd0 ho hb22
              refine skg (gt0 hb22) rfl rfl <| skg (gt0 hb22) rfl rfl <| skg (gt0 hb22) rfl rfl <| pk0 hb22 rfl .b <| sg rfl ?_
              cases ho
              exact s_nil fun _ _ s => fz () s ⟨rfl, trivial⟩ rfl
          · have ho := cnd0 ho hb20
            refine skg (gt0 hb20) rfl rfl <| skg (gt0 hb20) rfl rfl <| skg (gt0 hb20) rfl rfl <| pk0 hb20 rfl .b <| mv rfl <| skg rfl rfl rfl <| skg rfl rfl rfl <| skg rfl rfl rfl <| s_pick0 (.n rfl) rfl rfl (.t rfl) .b <| sg rfl ?_
            cases ho
            exact s_nil fun _ _ s => fz () s ⟨rfl, trivial⟩ rfl
        · have ho := cnd0 ho hb18
          refine skg (gt0 hb18) rfl rfl <| skg (gt0 hb18) rfl rfl <| skg (gt0 hb18) rfl rfl <| pk0 hb18 rfl .b <| mv rfl <| skg rfl rfl rfl <| skg rfl rfl rfl <| skg rfl rfl rfl <| s_pick0 (.n rfl) rfl rfl (.t rfl) .b <| mv rfl <| skg rfl rfl rfl <| skg rfl rfl rfl <| skg rfl rfl rfl <| s_pick0 (.n rfl) rfl rfl (.t rfl) .b <| sg rfl ?_
          cases ho
          exact s_nil fun _ _ s => fz () s ⟨rfl, trivial⟩ rfl
      · have ho := cnd0 ho hb16
        refine skg (gt0 hb16) rfl rfl <| skg (gt0 hb16) rfl rfl <| skg (gt0 hb16) rfl rfl <| pk0 hb16 rfl .b <| mv rfl <| skg rfl rfl rfl <| skg rfl rfl rfl <| skg rfl rfl rfl <| s_pick0 (.n rfl) rfl rfl (.t rfl) .b <| mv rfl <| skg rfl rfl rfl <| skg rfl rfl rfl <| skg rfl rfl rfl <| s_pick0 (.n rfl) rfl rfl (.t rfl) .b <| mv rfl <| skg rfl rfl rfl <| skg rfl rfl rfl <| skg rfl rfl rfl <| s_pick0 (.n rfl) rfl rfl (.t rfl) .b ?_
        refine sg rfl ?_
        cases ho
        exact s_nil fun _ _ s => fz () s ⟨rfl, trivial⟩ rfl
    · have ho := cnd0 ho hb14
      refine skg (gt0 hb14) rfl rfl <| skg (gt0 hb14) rfl rfl <| skg (gt0 hb14) rfl rfl <| pk0 hb14 rfl .b <| mv rfl <| skg rfl rfl rfl <| skg rfl rfl rfl <| skg rfl rfl rfl <| s_pick0 (.n rfl) rfl rfl (.t rfl) .b <| mv rfl <| skg rfl rfl rfl <| skg rfl rfl rfl <| skg rfl rfl rfl <| s_pick0 (.n rfl) rfl rfl (.t rfl) .b <| mv rfl <| skg rfl rfl rfl <| skg rfl rfl rfl <| skg rfl rfl rfl <| s_pick0 (.n rfl) rfl rfl (.t rfl) .b ?_
      refine mv rfl <| skg rfl rfl rfl <| skg rfl rfl rfl <| skg rfl rfl rfl <| s_pick0 (.n rfl) rfl rfl (.t rfl) .b <| sg rfl ?_
      cases ho
      exact s_nil fun _ _ s => fz () s ⟨rfl, trivial⟩ rfl
  · intro _
    show SRun ..
    cases ho
    exact r_ret (ret_of (.inr rfl) (.v rfl .n) (by decide))
theorem g_ref08_ends_ok {tasks_0 : (List Task)} {cars_1 : (List (List Int))} {x_2 : DutyPiece} {out : (Task × Task)} (ho : g_ref08_ends tasks_0 cars_1 x_2 = some out) : Fun ktab 55 [.val (rSlice rTask) tasks_0, .val (rSlice (rSlice (rInt .i64))) cars_1, .val rDutyPiece x_2] [.val rTask (out.1), .val rTask (out.2)] := by
  refine fun_of (F := Try.f55) (by rfl) (by rfl) (by rfl) (fun C hC => ?_)
  delta g_ref08_ends at ho
  refine rr <| bx rfl <| s_alloc (zv := .agg [.int .i64 0, .int .i64 0, .int .i64 0, .int .i64 0]) (es := [.val (rInt .i64) (0), .val (rInt .i64) (0), .val (rInt .i64) (0), .val (rInt .i64) (0)]) (by kernel_rfl) (fun _ => (okint (okint (okint (okint okn))))) rfl (.n rfl) rfl rfl ?_
  intro b1
  refine s_alloc (zv := .agg [.int .i64 0, .int .i64 0, .int .i64 0, .int .i64 0]) (es := [.val (rInt .i64) (0), .val (rInt .i64) (0), .val (rInt .i64) (0), .val (rInt .i64) (0)]) (by kernel_rfl) (fun _ => (okint (okint (okint (okint okn))))) rfl (.n rfl) rfl rfl ?_
  intro b3
  refine nq <| r_seq ?_
  refine r_draw [] (by kernel_rfl) ?_
  refine mv rfl <| mv rfl <| fa F78_0 fk_DutyPiece_0 (by decide) rfl <| ld U3 rfl ?_
  obtain ⟨x5, hx5, ho⟩ := bnd ho
  refine ix S23 hx5 rfl rfl <| ld U29 rfl <| fa F78_1 fk_DutyPiece_1 (by decide) rfl <| ld U3 rfl ?_
  obtain ⟨x6, hx6, ho⟩ := bnd ho
  refine ix S29 hx6 rfl rfl <| ld U3 rfl ?_
  obtain ⟨x7, hx7, ho⟩ := bnd ho
  refine ix S22 hx7 rfl rfl <| ld U87 rfl <| mv rfl <| mv rfl <| fa F78_0 fk_DutyPiece_0 (by decide) rfl <| ld U3 rfl ?_
  obtain ⟨x8, hx8, ho⟩ := bnd ho
  refine ix S23 hx8 rfl rfl <| ld U29 rfl <| fa F78_2 fk_DutyPiece_2 (by decide) rfl <| ld U3 rfl ?_
  obtain ⟨x9, hx9, ho⟩ := bnd ho
  refine ix S29 hx9 rfl rfl <| ld U3 rfl ?_
  obtain ⟨x10, hx10, ho⟩ := bnd ho
  refine ix S22 hx10 rfl rfl <| ld U87 rfl <| s_storebs 1 U87 rfl (c1 rfl (c1 rfl (c1 rfl (c1 rfl cells_unit)))) (by rfl) (.n rfl) rfl rfl (.t rfl) (.t rfl) (by rfl) <| s_storebs 0 U87 rfl (c1 rfl (c1 rfl (c1 rfl (c1 rfl cells_unit)))) (by rfl) (.n rfl) rfl rfl (.t rfl) (.t rfl) (by rfl) <| nq ?_
  cases ho
  exact r_ret (ret_of (.inr rfl) (.b 1 U87 (c1 rfl (c1 rfl (c1 rfl (c1 rfl cells_unit)))) rfl rfl (.b 0 U87 (c1 rfl (c1 rfl (c1 rfl (c1 rfl cells_unit)))) rfl rfl .n)) (by decide))
theorem g_ref08_Faults_ok {p_0 : (List Task)} {p_1 : Yard} {p_2 : (List (List Int))} {p_3 : WorkRules} {p_4 : Duty} {out : ((List Int))} (ho : g_ref08_Faults p_0 p_1 p_2 p_3 p_4 = some out) : Fun ktab 34 [.val (rSlice rTask) p_0, .val rYard p_1, .val (rSlice (rSlice (rInt .i64))) p_2, .val rWorkRules p_3, .val rDuty p_4] [.row (rInt .i64) (out)] := by
  refine fun_of (F := Try.f34) (by rfl) (by rfl) (by rfl) (fun C hC => ?_)
  delta g_ref08_Faults at ho
  refine rr <| bx rfl <| bx rfl <| bx rfl <| s_st (st_nilrow (rInt .i64)) <| s_assign (.n rfl) rfl rfl .nilr <| nq <| rr <| sgb <| sgb <| nq <| rr <| fa F42_4 fk_WorkRules_4 (by decide) rfl <| ld U3 rfl <| fa F42_5 fk_WorkRules_5 (by decide) rfl <| ld U3 rfl <| ar rfl rfl .add <| sg rfl <| nq <| r_seq <| rr <| sgc (by decide) <| nq <| r_block ?_
  obtain ⟨t106, ht106, ho⟩ := bnd ho
  refine r_loop (σ := (Bool × Bool × Int × Int)) (τ := (Bool × Bool × Int)) (G := List AVal) (fun s g => ([(0, .val (rSlice rTask) (p_0)), (2, .val (rSlice (rSlice (rInt .i64))) (p_2)), (6, .val (rPtr rYard) (p_1)), (8, .val (rPtr rWorkRules) (p_3)), (9, .val (rPtr rDuty) (p_4)), (11, .val rBool (s.1)), (12, .val rBool (s.2.1)), (13, .val (rInt .i64) (s.2.2.1)), (14, .val (rInt .i64) (s.2.2.2))], [])) (fun b => (.exit 0, fun g => ([(0, .val (rSlice rTask) (p_0)), (2, .val (rSlice (rSlice (rInt .i64))) (p_2)), (6, .val (rPtr rYard) (p_1)), (8, .val (rPtr rWorkRules) (p_3)), (9, .val (rPtr rDuty) (p_4)), (11, .val rBool (b.1)), (12, .val rBool (b.2.1)), (13, .val (rInt .i64) (b.2.2))], []))) _ [] ht106 (fun fr h s => s.pick [] ⟨rfl, rfl, rfl, rfl, rfl, rfl, rfl, rfl, rfl, trivial⟩ rfl (by decide)) ?_ ?_ ?_
  · intro t
    exact nx
  · clear ho
    intro s53 g54 r107 ho
    refine r_seq <| rr <| mv rfl <| fa F62_0 fk_Duty_0 (by decide) rfl <| ld U60 rfl <| ln S60 rfl rfl rfl (.t rfl) <| cm rfl rfl .lss <| nq <| ct rfl (fun hq55 => ?_) (fun hq55 => ?_)
    · have ho := cnd1 ho hq55
      refine kq rfl <| r_seq <| r_block <| rr <| fa F62_0 fk_Duty_0 (by decide) rfl <| ld U60 rfl <| mv rfl ?_
      obtain ⟨x56, hx56, ho⟩ := bnd ho
      refine ix S60 hx56 rfl rfl <| ld U78 rfl <| s_alloc (zv := .agg [.int .i64 0, .int .i64 0, .int .i64 0]) (es := [.val (rInt .i64) (0), .val (rInt .i64) (0), .val (rInt .i64) (0)]) (by kernel_rfl) (fun _ => (okint (okint (okint okn)))) rfl (.n rfl) rfl rfl ?_
      intro b57
      refine s_storebs 0 U78 rfl (c1 rfl (c1 rfl (c1 rfl cells_unit))) (by rfl) (.n rfl) rfl rfl (.t rfl) (.t rfl) (by rfl) <| s_st (st_freezeb (R := rDutyPiece) (a := x56) 0 [15] (c1 rfl (c1 rfl (c1 rfl cells_unit))) rfl rfl ⟨rfl, trivial⟩) ?_
      refine nq <| rr <| mv rfl <| mv rfl <| ld U78 rfl ?_
      obtain ⟨y59, hy59, ho⟩ := bnd ho
      refine s_calll (g_ref08_ends_ok hy59) (.v (flat_pair flat_int (flat_pair flat_int (flat_pair flat_int (flat_pair flat_int flat_unit)))) (.v (flat_pair flat_int (flat_pair flat_int (flat_pair flat_int (flat_pair flat_int flat_unit)))) .n)) rfl (.n rfl) rfl rfl rfl .f (.c (.o (.t rfl)) (.c (.o (.t rfl)) (.c (.o (.t rfl)) .n))) ?_
      show SOps ..
      refine mv rfl <| ext rfl rfl <| ext rfl rfl <| s_alloc (zv := .agg [.int .i64 0, .int .i64 0, .int .i64 0, .int .i64 0]) (es := [.val (rInt .i64) (0), .val (rInt .i64) (0), .val (rInt .i64) (0), .val (rInt .i64) (0)]) (by kernel_rfl) (fun _ => (okint (okint (okint (okint okn))))) rfl (.n rfl) rfl rfl ?_
      intro b60
      refine s_alloc (zv := .agg [.int .i64 0, .int .i64 0, .int .i64 0, .int .i64 0]) (es := [.val (rInt .i64) (0), .val (rInt .i64) (0), .val (rInt .i64) (0), .val (rInt .i64) (0)]) (by kernel_rfl) (fun _ => (okint (okint (okint (okint okn))))) rfl (.n rfl) rfl rfl ?_
      intro b62
      refine s_storebs 1 U87 rfl (c1 rfl (c1 rfl (c1 rfl (c1 rfl cells_unit)))) (by rfl) (.n rfl) rfl rfl (.t rfl) (.t rfl) (by rfl) <| s_st (st_freezeb (R := rTask) (a := y59.1) 1 [16] (c1 rfl (c1 rfl (c1 rfl (c1 rfl cells_unit)))) rfl rfl ⟨rfl, trivial⟩) ?_
      refine s_storebs 0 U87 rfl (c1 rfl (c1 rfl (c1 rfl (c1 rfl cells_unit)))) (by rfl) (.n rfl) rfl rfl (.t rfl) (.t rfl) (by rfl) <| s_st (st_freezeb (R := rTask) (a := y59.2) 0 [17] (c1 rfl (c1 rfl (c1 rfl (c1 rfl cells_unit)))) rfl rfl ⟨rfl, trivial⟩) ?_
      refine nq <| rr <| mv rfl <| mv rfl ?_
      rcases Bool.eq_false_or_eq_true (s53.1) with hb65 | hb65
      · have ho := cnd1 ho hb65
        refine skg (gf1 hb65) rfl rfl <| skg (gf1 hb65) rfl rfl <| skg (gf1 hb65) rfl rfl <| skg (gf1 hb65) rfl rfl <| skg (gf1 hb65) rfl rfl <| skg (gf1 hb65) rfl rfl <| skg (gf1 hb65) rfl rfl <| skg (gf1 hb65) rfl rfl <| pk1 hb65 rfl .b <| sg rfl <| nq <| r_seq ?_
        refine r_draw [] (by kernel_rfl) ?_
        refine mv rfl <| mv rfl ?_
        rcases Bool.eq_false_or_eq_true (s53.2.1) with hb76 | hb76
        · have ho := cnd1 ho hb76
          refine skg (gf1 hb76) rfl rfl <| skg (gf1 hb76) rfl rfl <| skg (gf1 hb76) rfl rfl <| skg (gf1 hb76) rfl rfl <| sku rfl rfl <| sku rfl rfl <| sku rfl rfl <| sku rfl rfl <| sku rfl rfl <| sku rfl rfl <| sku rfl rfl <| skg (gf1 hb76) rfl rfl <| pk1 hb76 rfl .b <| mv rfl <| skg rfl rfl rfl <| skg rfl rfl rfl <| skg rfl rfl rfl <| skg rfl rfl rfl <| skg rfl rfl rfl <| skg rfl rfl rfl <| skg rfl rfl rfl <| skg rfl rfl rfl ?_
          refine skg rfl rfl rfl <| skg rfl rfl rfl <| skg rfl rfl rfl <| sku rfl rfl <| sku rfl rfl <| sku rfl rfl <| sku rfl rfl <| sku rfl rfl <| sku rfl rfl <| sku rfl rfl <| skg rfl rfl rfl <| pt rfl .b <| sg rfl <| nq <| r_region <| mv rfl <| fa F87_3 fk_Task_3 (by decide) rfl <| ld U3 rfl <| ar rfl rfl .add <| fa F87_2 fk_Task_2 (by decide) rfl <| ld U3 rfl <| ar rfl rfl .sub <| sg rfl <| nq <| r_region <| mv rfl ?_
          refine arc rfl (by decide) .add <| sg rfl ?_
          cases ho
          exact s_nil fun _ _ s => fz [] s ⟨rfl, rfl, rfl, rfl, rfl, rfl, rfl, rfl, rfl, trivial⟩ rfl
        · have ho := cnd0 ho hb76
          refine s_fa F78_1 fk_DutyPiece_1 (by decide) (.g rfl rfl (gf0 hb76)) rfl rfl (.t rfl) <| ldg U3 (gf0 hb76) rfl rfl rfl <| s_cmp (.g rfl rfl (gf0 hb76)) rfl rfl (.t rfl) (.i (by decide) (by decide)) .gtr <| mvg (gf0 hb76) rfl rfl rfl ?_
          rcases Bool.eq_false_or_eq_true ((decide (x56.2.1 > 0))) with hb77 | hb77
          · have ho := cnd1 ho hb77
            refine s_fa F26_2 fk_Yard_2 (by decide) (.g rfl rfl (gt1 hb77)) rfl rfl (.t rfl) <| ldg U24 (gt1 hb77) rfl rfl rfl <| s_fa F87_0 fk_Task_0 (by decide) (.g rfl rfl (gt1 hb77)) rfl rfl (.t rfl) <| ldg U3 (gt1 hb77) rfl rfl rfl ?_
            obtain ⟨x78, hx78, ho⟩ := bnd ho
            refine s_idx S24 hx78 (.g rfl rfl (gt1 hb77)) rfl rfl (.t rfl) (.t rfl) <| ldg U4 (gt1 hb77) rfl rfl rfl <| s_not (.g rfl rfl (gt1 hb77)) rfl rfl (.t rfl) <| s_pk1 hb77 (.g rfl rfl (gf0 hb76)) rfl rfl (.t rfl) (.t rfl) <| pk0 hb76 rfl (.t rfl) <| mv rfl ?_
            rcases Bool.eq_false_or_eq_true ((!x78)) with hb79 | hb79
            · have ho := cnd1 ho hb79
              refine skg (gf1 hb79) rfl rfl <| skg (gf1 hb79) rfl rfl <| skg (gf1 hb79) rfl rfl <| skg (gf1 hb79) rfl rfl <| skg (gf1 hb79) rfl rfl <| skg (gf1 hb79) rfl rfl <| skg (gf1 hb79) rfl rfl <| skg (gf1 hb79) rfl rfl <| skg (gf1 hb79) rfl rfl <| skg (gf1 hb79) rfl rfl <| skg (gf1 hb79) rfl rfl <| sku rfl rfl <| sku rfl rfl <| sku rfl rfl <| sku rfl rfl <| sku rfl rfl <| sku rfl rfl <| sku rfl rfl <| skg (gf1 hb79) rfl rfl ?_
              refine pk1 hb79 rfl .b <| sg rfl <| nq <| r_region <| mv rfl <| fa F87_3 fk_Task_3 (by decide) rfl <| ld U3 rfl <| ar rfl rfl .add <| fa F87_2 fk_Task_2 (by decide) rfl <| ld U3 rfl <| ar rfl rfl .sub <| sg rfl <| nq <| r_region <| mv rfl <| arc rfl (by decide) .add <| sg rfl ?_
              cases ho
              exact s_nil fun _ _ s => fz [] s ⟨rfl, rfl, rfl, rfl, rfl, rfl, rfl, rfl, rfl, trivial⟩ rfl
            · have ho := cnd0 ho hb79
              refine s_fa F78_2 fk_DutyPiece_2 (by decide) (.g rfl rfl (gf0 hb79)) rfl rfl (.t rfl) <| ldg U3 (gf0 hb79) rfl rfl rfl <| mvg (gf0 hb79) rfl rfl rfl <| s_fa F78_0 fk_DutyPiece_0 (by decide) (.g rfl rfl (gf0 hb79)) rfl rfl (.t rfl) <| ldg U3 (gf0 hb79) rfl rfl rfl ?_
              obtain ⟨x80, hx80, ho⟩ := bnd ho
              refine s_idx S23 hx80 (.g rfl rfl (gf0 hb79)) rfl rfl (.t rfl) (.t rfl) <| ldg U29 (gf0 hb79) rfl rfl rfl <| s_len S29 (.g rfl rfl (gf0 hb79)) rfl rfl rfl rfl rfl (.t rfl) <| s_ar (.g rfl rfl (gf0 hb79)) rfl rfl (.t rfl) (.i (by decide) (by decide)) .sub <| s_cmp (.g rfl rfl (gf0 hb79)) rfl rfl (.t rfl) (.t rfl) .lss <| mvg (gf0 hb79) rfl rfl rfl ?_
              rcases Bool.eq_false_or_eq_true ((decide (x56.2.2.1 < (w64 ((lenI x80) - 1))))) with hb81 | hb81
              · have ho := cnd1 ho hb81
                refine s_fa F26_2 fk_Yard_2 (by decide) (.g rfl rfl (gt1 hb81)) rfl rfl (.t rfl) <| ldg U24 (gt1 hb81) rfl rfl rfl <| s_fa F87_1 fk_Task_1 (by decide) (.g rfl rfl (gt1 hb81)) rfl rfl (.t rfl) <| ldg U3 (gt1 hb81) rfl rfl rfl ?_
                obtain ⟨x82, hx82, ho⟩ := bnd ho
                refine s_idx S24 hx82 (.g rfl rfl (gt1 hb81)) rfl rfl (.t rfl) (.t rfl) <| ldg U4 (gt1 hb81) rfl rfl rfl <| s_not (.g rfl rfl (gt1 hb81)) rfl rfl (.t rfl) <| s_pk1 hb81 (.g rfl rfl (gf0 hb79)) rfl rfl (.t rfl) (.t rfl) <| pk0 hb79 rfl (.t rfl) <| sg rfl <| nq <| r_region <| mv rfl <| fa F87_3 fk_Task_3 (by decide) rfl <| ld U3 rfl <| ar rfl rfl .add <| fa F87_2 fk_Task_2 (by decide) rfl <| ld U3 rfl <| ar rfl rfl .sub ?_
                refine sg rfl <| nq <| r_region <| mv rfl <| arc rfl (by decide) .add <| sg rfl ?_
                cases ho
                exact s_nil fun _ _ s => fz [] s ⟨rfl, rfl, rfl, rfl, rfl, rfl, rfl, rfl, rfl, trivial⟩ rfl
              · have ho := cnd0 ho hb81
                refine skg (gt0 hb81) rfl rfl <| skg (gt0 hb81) rfl rfl <| skg (gt0 hb81) rfl rfl <| skg (gt0 hb81) rfl rfl <| skg (gt0 hb81) rfl rfl <| skg (gt0 hb81) rfl rfl <| skg (gt0 hb81) rfl rfl <| s_pk0 hb81 (.g rfl rfl (gf0 hb79)) rfl rfl (.t rfl) .b <| pk0 hb79 rfl (.t rfl) <| sg rfl <| nq <| r_region <| mv rfl <| fa F87_3 fk_Task_3 (by decide) rfl <| ld U3 rfl <| ar rfl rfl .add <| fa F87_2 fk_Task_2 (by decide) rfl ?_
                refine ld U3 rfl <| ar rfl rfl .sub <| sg rfl <| nq <| r_region <| mv rfl <| arc rfl (by decide) .add <| sg rfl ?_
                cases ho
                exact s_nil fun _ _ s => fz [] s ⟨rfl, rfl, rfl, rfl, rfl, rfl, rfl, rfl, rfl, trivial⟩ rfl
          · have ho := cnd0 ho hb77
            refine skg (gt0 hb77) rfl rfl <| skg (gt0 hb77) rfl rfl <| skg (gt0 hb77) rfl rfl <| skg (gt0 hb77) rfl rfl <| skg (gt0 hb77) rfl rfl <| skg (gt0 hb77) rfl rfl <| skg (gt0 hb77) rfl rfl <| s_pk0 hb77 (.g rfl rfl (gf0 hb76)) rfl rfl (.t rfl) .b <| pk0 hb76 rfl (.t rfl) <| mv rfl <| s_fa F78_2 fk_DutyPiece_2 (by decide) (.g rfl rfl rfl) rfl rfl (.t rfl) <| ldg U3 rfl rfl rfl rfl <| mvg rfl rfl rfl rfl <| s_fa F78_0 fk_DutyPiece_0 (by decide) (.g rfl rfl rfl) rfl rfl (.t rfl) ?_
            refine ldg U3 rfl rfl rfl rfl ?_
            obtain ⟨x83, hx83, ho⟩ := bnd ho
            refine s_idx S23 hx83 (.g rfl rfl rfl) rfl rfl (.t rfl) (.t rfl) <| ldg U29 rfl rfl rfl rfl <| s_len S29 (.g rfl rfl rfl) rfl rfl rfl rfl rfl (.t rfl) <| s_ar (.g rfl rfl rfl) rfl rfl (.t rfl) (.i (by decide) (by decide)) .sub <| s_cmp (.g rfl rfl rfl) rfl rfl (.t rfl) (.t rfl) .lss <| mvg rfl rfl rfl rfl ?_
            rcases Bool.eq_false_or_eq_true ((decide (x56.2.2.1 < (w64 ((lenI x83) - 1))))) with hb84 | hb84
            · have ho := cnd1 ho hb84
              refine s_fa F26_2 fk_Yard_2 (by decide) (.g rfl rfl (gt1 hb84)) rfl rfl (.t rfl) <| ldg U24 (gt1 hb84) rfl rfl rfl <| s_fa F87_1 fk_Task_1 (by decide) (.g rfl rfl (gt1 hb84)) rfl rfl (.t rfl) <| ldg U3 (gt1 hb84) rfl rfl rfl ?_
              obtain ⟨x85, hx85, ho⟩ := bnd ho
              refine s_idx S24 hx85 (.g rfl rfl (gt1 hb84)) rfl rfl (.t rfl) (.t rfl) <| ldg U4 (gt1 hb84) rfl rfl rfl <| s_not (.g rfl rfl (gt1 hb84)) rfl rfl (.t rfl) <| s_pk1 hb84 (.g rfl rfl rfl) rfl rfl (.t rfl) (.t rfl) <| s_pick0 (.n rfl) rfl rfl (.t rfl) (.t rfl) <| sg rfl <| nq <| r_region <| mv rfl <| fa F87_3 fk_Task_3 (by decide) rfl <| ld U3 rfl <| ar rfl rfl .add <| fa F87_2 fk_Task_2 (by decide) rfl <| ld U3 rfl ?_
              refine ar rfl rfl .sub <| sg rfl <| nq <| r_region <| mv rfl <| arc rfl (by decide) .add <| sg rfl ?_
              cases ho
              exact s_nil fun _ _ s => fz [] s ⟨rfl, rfl, rfl, rfl, rfl, rfl, rfl, rfl, rfl, trivial⟩ rfl
            · have ho := cnd0 ho hb84
              refine skg (gt0 hb84) rfl rfl <| skg (gt0 hb84) rfl rfl <| skg (gt0 hb84) rfl rfl <| skg (gt0 hb84) rfl rfl <| skg (gt0 hb84) rfl rfl <| skg (gt0 hb84) rfl rfl <| skg (gt0 hb84) rfl rfl <| s_pk0 hb84 (.g rfl rfl rfl) rfl rfl (.t rfl) .b <| s_pick0 (.n rfl) rfl rfl (.t rfl) (.t rfl) <| sg rfl <| nq <| r_region <| mv rfl <| fa F87_3 fk_Task_3 (by decide) rfl <| ld U3 rfl <| ar rfl rfl .add <| fa F87_2 fk_Task_2 (by decide) rfl ?_
              refine ld U3 rfl <| ar rfl rfl .sub <| sg rfl <| nq <| r_region <| mv rfl <| arc rfl (by decide) .add <| sg rfl ?_
              cases ho
              exact s_nil fun _ _ s => fz [] s ⟨rfl, rfl, rfl, rfl, rfl, rfl, rfl, rfl, rfl, trivial⟩ rfl
      · have ho := cnd0 ho hb65
        refine s_fa F87_3 fk_Task_3 (by decide) (.g rfl rfl (gf0 hb65)) rfl rfl (.t rfl) <| ldg U3 (gf0 hb65) rfl rfl rfl <| s_fa F87_2 fk_Task_2 (by decide) (.g rfl rfl (gf0 hb65)) rfl rfl (.t rfl) <| ldg U3 (gf0 hb65) rfl rfl rfl <| s_ar (.g rfl rfl (gf0 hb65)) rfl rfl (.t rfl) (.t rfl) .sub <| s_fa F42_0 fk_WorkRules_0 (by decide) (.g rfl rfl (gf0 hb65)) rfl rfl (.t rfl) <| ldg U3 (gf0 hb65) rfl rfl rfl <| s_cmp (.g rfl rfl (gf0 hb65)) rfl rfl (.t rfl) (.t rfl) .gtr ?_
        refine pk0 hb65 rfl (.t rfl) <| sg rfl <| nq <| r_seq ?_
        refine r_draw [] (by kernel_rfl) ?_
        refine mv rfl <| mv rfl ?_
        rcases Bool.eq_false_or_eq_true (s53.2.1) with hb96 | hb96
        · have ho := cnd1 ho hb96
          refine skg (gf1 hb96) rfl rfl <| skg (gf1 hb96) rfl rfl <| skg (gf1 hb96) rfl rfl <| skg (gf1 hb96) rfl rfl <| sku rfl rfl <| sku rfl rfl <| sku rfl rfl <| sku rfl rfl <| sku rfl rfl <| sku rfl rfl <| sku rfl rfl <| skg (gf1 hb96) rfl rfl <| pk1 hb96 rfl .b <| mv rfl <| skg rfl rfl rfl <| skg rfl rfl rfl <| skg rfl rfl rfl <| skg rfl rfl rfl <| skg rfl rfl rfl <| skg rfl rfl rfl <| skg rfl rfl rfl <| skg rfl rfl rfl ?_
          refine skg rfl rfl rfl <| skg rfl rfl rfl <| skg rfl rfl rfl <| sku rfl rfl <| sku rfl rfl <| sku rfl rfl <| sku rfl rfl <| sku rfl rfl <| sku rfl rfl <| sku rfl rfl <| skg rfl rfl rfl <| pt rfl .b <| sg rfl <| nq <| r_region <| mv rfl <| fa F87_3 fk_Task_3 (by decide) rfl <| ld U3 rfl <| ar rfl rfl .add <| fa F87_2 fk_Task_2 (by decide) rfl <| ld U3 rfl <| ar rfl rfl .sub <| sg rfl <| nq <| r_region <| mv rfl ?_
          refine arc rfl (by decide) .add <| sg rfl ?_
          cases ho
          exact s_nil fun _ _ s => fz [] s ⟨rfl, rfl, rfl, rfl, rfl, rfl, rfl, rfl, rfl, trivial⟩ rfl
        · have ho := cnd0 ho hb96
          refine s_fa F78_1 fk_DutyPiece_1 (by decide) (.g rfl rfl (gf0 hb96)) rfl rfl (.t rfl) <| ldg U3 (gf0 hb96) rfl rfl rfl <| s_cmp (.g rfl rfl (gf0 hb96)) rfl rfl (.t rfl) (.i (by decide) (by decide)) .gtr <| mvg (gf0 hb96) rfl rfl rfl ?_
          rcases Bool.eq_false_or_eq_true ((decide (x56.2.1 > 0))) with hb97 | hb97
          · have ho := cnd1 ho hb97
            refine s_fa F26_2 fk_Yard_2 (by decide) (.g rfl rfl (gt1 hb97)) rfl rfl (.t rfl) <| ldg U24 (gt1 hb97) rfl rfl rfl <| s_fa F87_0 fk_Task_0 (by decide) (.g rfl rfl (gt1 hb97)) rfl rfl (.t rfl) <| ldg U3 (gt1 hb97) rfl rfl rfl ?_
            obtain ⟨x98, hx98, ho⟩ := bnd ho
            refine s_idx S24 hx98 (.g rfl rfl (gt1 hb97)) rfl rfl (.t rfl) (.t rfl) <| ldg U4 (gt1 hb97) rfl rfl rfl <| s_not (.g rfl rfl (gt1 hb97)) rfl rfl (.t rfl) <| s_pk1 hb97 (.g rfl rfl (gf0 hb96)) rfl rfl (.t rfl) (.t rfl) <| pk0 hb96 rfl (.t rfl) <| mv rfl ?_
            rcases Bool.eq_false_or_eq_true ((!x98)) with hb99 | hb99
            · have ho := cnd1 ho hb99
              refine skg (gf1 hb99) rfl rfl <| skg (gf1 hb99) rfl rfl <| skg (gf1 hb99) rfl rfl <| skg (gf1 hb99) rfl rfl <| skg (gf1 hb99) rfl rfl <| skg (gf1 hb99) rfl rfl <| skg (gf1 hb99) rfl rfl <| skg (gf1 hb99) rfl rfl <| skg (gf1 hb99) rfl rfl <| skg (gf1 hb99) rfl rfl <| skg (gf1 hb99) rfl rfl <| sku rfl rfl <| sku rfl rfl <| sku rfl rfl <| sku rfl rfl <| sku rfl rfl <| sku rfl rfl <| sku rfl rfl <| skg (gf1 hb99) rfl rfl ?_
              refine pk1 hb99 rfl .b <| sg rfl <| nq <| r_region <| mv rfl <| fa F87_3 fk_Task_3 (by decide) rfl <| ld U3 rfl <| ar rfl rfl .add <| fa F87_2 fk_Task_2 (by decide) rfl <| ld U3 rfl <| ar rfl rfl .sub <| sg rfl <| nq <| r_region <| mv rfl <| arc rfl (by decide) .add <| sg rfl ?_
              cases ho
              exact s_nil fun _ _ s => fz [] s ⟨rfl, rfl, rfl, rfl, rfl, rfl, rfl, rfl, rfl, trivial⟩ rfl
            · have ho := cnd0 ho hb99
              refine s_fa F78_2 fk_DutyPiece_2 (by decide) (.g rfl rfl (gf0 hb99)) rfl rfl (.t rfl) <| ldg U3 (gf0 hb99) rfl rfl rfl <| mvg (gf0 hb99) rfl rfl rfl <| s_fa F78_0 fk_DutyPiece_0 (by decide) (.g rfl rfl (gf0 hb99)) rfl rfl (.t rfl) <| ldg U3 (gf0 hb99) rfl rfl rfl ?_
              obtain ⟨x100, hx100, ho⟩ := bnd ho
              refine s_idx S23 hx100 (.g rfl rfl (gf0 hb99)) rfl rfl (.t rfl) (.t rfl) <| ldg U29 (gf0 hb99) rfl rfl rfl <| s_len S29 (.g rfl rfl (gf0 hb99)) rfl rfl rfl rfl rfl (.t rfl) <| s_ar (.g rfl rfl (gf0 hb99)) rfl rfl (.t rfl) (.i (by decide) (by decide)) .sub <| s_cmp (.g rfl rfl (gf0 hb99)) rfl rfl (.t rfl) (.t rfl) .lss <| mvg (gf0 hb99) rfl rfl rfl ?_
              rcases Bool.eq_false_or_eq_true ((decide (x56.2.2.1 < (w64 ((lenI x100) - 1))))) with hb101 | hb101
              · have ho := cnd1 ho hb101
                refine s_fa F26_2 fk_Yard_2 (by decide) (.g rfl rfl (gt1 hb101)) rfl rfl (.t rfl) <| ldg U24 (gt1 hb101) rfl rfl rfl <| s_fa F87_1 fk_Task_1 (by decide) (.g rfl rfl (gt1 hb101)) rfl rfl (.t rfl) <| ldg U3 (gt1 hb101) rfl rfl rfl ?_
                obtain ⟨x102, hx102, ho⟩ := bnd ho
                refine s_idx S24 hx102 (.g rfl rfl (gt1 hb101)) rfl rfl (.t rfl) (.t rfl) <| ldg U4 (gt1 hb101) rfl rfl rfl <| s_not (.g rfl rfl (gt1 hb101)) rfl rfl (.t rfl) <| s_pk1 hb101 (.g rfl rfl (gf0 hb99)) rfl rfl (.t rfl) (.t rfl) <| pk0 hb99 rfl (.t rfl) <| sg rfl <| nq <| r_region <| mv rfl <| fa F87_3 fk_Task_3 (by decide) rfl <| ld U3 rfl <| ar rfl rfl .add <| fa F87_2 fk_Task_2 (by decide) rfl <| ld U3 rfl ?_
                refine ar rfl rfl .sub <| sg rfl <| nq <| r_region <| mv rfl <| arc rfl (by decide) .add <| sg rfl ?_
                cases ho
                exact s_nil fun _ _ s => fz [] s ⟨rfl, rfl, rfl, rfl, rfl, rfl, rfl, rfl, rfl, trivial⟩ rfl
              · have ho := cnd0 ho hb101
                refine skg (gt0 hb101) rfl rfl <| skg (gt0 hb101) rfl rfl <| skg (gt0 hb101) rfl rfl <| skg (gt0 hb101) rfl rfl <| skg (gt0 hb101) rfl rfl <| skg (gt0 hb101) rfl rfl <| skg (gt0 hb101) rfl rfl <| s_pk0 hb101 (.g rfl rfl (gf0 hb99)) rfl rfl (.t rfl) .b <| pk0 hb99 rfl (.t rfl) <| sg rfl <| nq <| r_region <| mv rfl <| fa F87_3 fk_Task_3 (by decide) rfl <| ld U3 rfl <| ar rfl rfl .add <| fa F87_2 fk_Task_2 (by decide) rfl ?_
                refine ld U3 rfl <| ar rfl rfl .sub <| sg rfl <| nq <| r_region <| mv rfl <| arc rfl (by decide) .add <| sg rfl ?_
                cases ho
                exact s_nil fun _ _ s => fz [] s ⟨rfl, rfl, rfl, rfl, rfl, rfl, rfl, rfl, rfl, trivial⟩ rfl
          · have ho := cnd0 ho hb97
            refine skg (gt0 hb97) rfl rfl <| skg (gt0 hb97) rfl rfl <| skg (gt0 hb97) rfl rfl <| skg (gt0 hb97) rfl rfl <| skg (gt0 hb97) rfl rfl <| skg (gt0 hb97) rfl rfl <| skg (gt0 hb97) rfl rfl <| s_pk0 hb97 (.g rfl rfl (gf0 hb96)) rfl rfl (.t rfl) .b <| pk0 hb96 rfl (.t rfl) <| mv rfl <| s_fa F78_2 fk_DutyPiece_2 (by decide) (.g rfl rfl rfl) rfl rfl (.t rfl) <| ldg U3 rfl rfl rfl rfl <| mvg rfl rfl rfl rfl <| s_fa F78_0 fk_DutyPiece_0 (by decide) (.g rfl rfl rfl) rfl rfl (.t rfl) ?_
            refine ldg U3 rfl rfl rfl rfl ?_
            obtain ⟨x103, hx103, ho⟩ := bnd ho
            refine s_idx S23 hx103 (.g rfl rfl rfl) rfl rfl (.t rfl) (.t rfl) <| ldg U29 rfl rfl rfl rfl <| s_len S29 (.g rfl rfl rfl) rfl rfl rfl rfl rfl (.t rfl) <| s_ar (.g rfl rfl rfl) rfl rfl (.t rfl) (.i (by decide) (by decide)) .sub <| s_cmp (.g rfl rfl rfl) rfl rfl (.t rfl) (.t rfl) .lss <| mvg rfl rfl rfl rfl ?_
            rcases Bool.eq_false_or_eq_true ((decide (x56.2.2.1 < (w64 ((lenI x103) - 1))))) with hb104 | hb104
            · have ho := cnd1 ho hb104
              refine s_fa F26_2 fk_Yard_2 (by decide) (.g rfl rfl (gt1 hb104)) rfl rfl (.t rfl) <| ldg U24 (gt1 hb104) rfl rfl rfl <| s_fa F87_1 fk_Task_1 (by decide) (.g rfl rfl (gt1 hb104)) rfl rfl (.t rfl) <| ldg U3 (gt1 hb104) rfl rfl rfl ?_
              obtain ⟨x105, hx105, ho⟩ := bnd ho
              refine s_idx S24 hx105 (.g rfl rfl (gt1 hb104)) rfl rfl (.t rfl) (.t rfl) <| ldg U4 (gt1 hb104) rfl rfl rfl <| s_not (.g rfl rfl (gt1 hb104)) rfl rfl (.t rfl) <| s_pk1 hb104 (.g rfl rfl rfl) rfl rfl (.t rfl) (.t rfl) <| s_pick0 (.n rfl) rfl rfl (.t rfl) (.t rfl) <| sg rfl <| nq <| r_region <| mv rfl <| fa F87_3 fk_Task_3 (by decide) rfl <| ld U3 rfl <| ar rfl rfl .add <| fa F87_2 fk_Task_2 (by decide) rfl ?_
              refine ld U3 rfl <| ar rfl rfl .sub <| sg rfl <| nq <| r_region <| mv rfl <| arc rfl (by decide) .add <| sg rfl ?_
              cases ho
              exact s_nil fun _ _ s => fz [] s ⟨rfl, rfl, rfl, rfl, rfl, rfl, rfl, rfl, rfl, trivial⟩ rfl
            · have ho := cnd0 ho hb104
              refine skg (gt0 hb104) rfl rfl <| skg (gt0 hb104) rfl rfl <| skg (gt0 hb104) rfl rfl <| skg (gt0 hb104) rfl rfl <| skg (gt0 hb104) rfl rfl <| skg (gt0 hb104) rfl rfl <| skg (gt0 hb104) rfl rfl <| s_pk0 hb104 (.g rfl rfl rfl) rfl rfl (.t rfl) .b <| s_pick0 (.n rfl) rfl rfl (.t rfl) (.t rfl) <| sg rfl <| nq <| r_region <| mv rfl <| fa F87_3 fk_Task_3 (by decide) rfl <| ld U3 rfl <| ar rfl rfl .add <| fa F87_2 fk_Task_2 (by decide) rfl ?_
              refine ld U3 rfl <| ar rfl rfl .sub <| sg rfl <| nq <| r_region <| mv rfl <| arc rfl (by decide) .add <| sg rfl ?_
              cases ho
              exact s_nil fun _ _ s => fz [] s ⟨rfl, rfl, rfl, rfl, rfl, rfl, rfl, rfl, rfl, trivial⟩ rfl
    · have ho := cnd0 ho hq55
      cases ho
      exact r_exit fun _ _ s => fz [] s ⟨rfl, rfl, rfl, rfl, rfl, rfl, rfl, rfl, trivial⟩ rfl
  · intro g108
    show ∀ fr h, St _ [(0, .val (rSlice rTask) (p_0)), (2, .val (rSlice (rSlice (rInt .i64))) (p_2)), (6, .val (rPtr rYard) (p_1)), (8, .val (rPtr rWorkRules) (p_3)), (9, .val (rPtr rDuty) (p_4)), (11, .val rBool (t106.1)), (12, .val rBool (t106.2.1)), (13, .val (rInt .i64) (t106.2.2))] [] fr h → _
    show SRun ..
    refine rr <| s_st (st_nilrow (rInt .i64)) <| s_assign (.n rfl) rfl rfl .nilr <| nq <| r_seq <| rr <| mv rfl <| nq <| ct rfl (fun hq110 => ?_) (fun hq110 => ?_)
    · have ho := cnd1 ho hq110
      refine r_region <| mv rfl <| s_bs (R := (rInt .i64)) S63 Y68 (.n rfl) rfl rfl (.c (.i (by decide) (by decide)) .n) rfl (by decide) ?_
      obtain ⟨x111, hx111, ho⟩ := bnd ho
      refine s_app 0 S63 Y68 hx111 (.n rfl) rfl rfl rfl rfl rfl (.t rfl) rfl (.t rfl) rfl ?_
      intro v112
      refine sg rfl <| nq <| r_seq <| rr <| mv rfl <| nq <| ct rfl (fun hq113 => ?_) (fun hq113 => ?_)
      · have ho := cnd1 ho hq113
        refine r_region <| mv rfl <| s_bs (R := (rInt .i64)) S63 Y68 (.n rfl) rfl rfl (.c (.i (by decide) (by decide)) .n) rfl (by decide) ?_
        obtain ⟨x114, hx114, ho⟩ := bnd ho
        refine s_app 0 S63 Y68 hx114 (.n rfl) rfl rfl rfl rfl rfl (.t rfl) rfl (.t rfl) rfl ?_
        intro v115
        refine sg rfl <| nq <| rr <| mv rfl <| mv rfl <| fa F62_0 fk_Duty_0 (by decide) rfl <| ld U60 rfl ?_
        obtain ⟨x116, hx116, ho⟩ := bnd ho
        refine s_idx S60 hx116 (.n rfl) rfl rfl (.t rfl) (.i (by decide) (by decide)) <| ld U78 rfl ?_
        obtain ⟨y117, hy117, ho⟩ := bnd ho
        refine s_calll (g_ref08_ends_ok hy117) (.v (flat_pair flat_int (flat_pair flat_int (flat_pair flat_int (flat_pair flat_int flat_unit)))) (.v (flat_pair flat_int (flat_pair flat_int (flat_pair flat_int (flat_pair flat_int flat_unit)))) .n)) rfl (.n rfl) rfl rfl rfl .f (.c (.o (.t rfl)) (.c (.o (.t rfl)) (.c (.o (.t rfl)) .n))) ?_
        show SOps ..
        refine mv rfl <| ext rfl rfl <| ext rfl rfl <| s_alloc (zv := .agg [.int .i64 0, .int .i64 0, .int .i64 0, .int .i64 0]) (es := [.val (rInt .i64) (0), .val (rInt .i64) (0), .val (rInt .i64) (0), .val (rInt .i64) (0)]) (by kernel_rfl) (fun _ => (okint (okint (okint (okint okn))))) rfl (.n rfl) rfl rfl ?_
        intro b118
        refine s_alloc (zv := .agg [.int .i64 0, .int .i64 0, .int .i64 0, .int .i64 0]) (es := [.val (rInt .i64) (0), .val (rInt .i64) (0), .val (rInt .i64) (0), .val (rInt .i64) (0)]) (by kernel_rfl) (fun _ => (okint (okint (okint (okint okn))))) rfl (.n rfl) rfl rfl ?_
        intro b120
        refine s_storebs 1 U87 rfl (c1 rfl (c1 rfl (c1 rfl (c1 rfl cells_unit)))) (by rfl) (.n rfl) rfl rfl (.t rfl) (.t rfl) (by rfl) <| s_st (st_freezeb (R := rTask) (a := y117.1) 1 [19] (c1 rfl (c1 rfl (c1 rfl (c1 rfl cells_unit)))) rfl rfl ⟨rfl, trivial⟩) ?_
        refine s_storebs 0 U87 rfl (c1 rfl (c1 rfl (c1 rfl (c1 rfl cells_unit)))) (by rfl) (.n rfl) rfl rfl (.t rfl) (.t rfl) (by rfl) <| nq <| r_seq <| rr <| fa F62_0 fk_Duty_0 (by decide) rfl <| ld U60 rfl <| ln S60 rfl rfl rfl (.t rfl) <| cmc rfl (by decide) .eql <| nq <| ct rfl (fun hq122 => ?_) (fun hq122 => ?_)
        · have ho := cnd1 ho hq122
          refine rr <| mv rfl <| mv rfl <| fa F62_0 fk_Duty_0 (by decide) rfl <| ld U60 rfl ?_
          obtain ⟨x123, hx123, ho⟩ := bnd ho
          refine s_idx S60 hx123 (.n rfl) rfl rfl (.t rfl) (.i (by decide) (by decide)) <| ld U78 rfl ?_
          obtain ⟨y124, hy124, ho⟩ := bnd ho
          refine s_calll (g_ref08_ends_ok hy124) (.v (flat_pair flat_int (flat_pair flat_int (flat_pair flat_int (flat_pair flat_int flat_unit)))) (.v (flat_pair flat_int (flat_pair flat_int (flat_pair flat_int (flat_pair flat_int flat_unit)))) .n)) rfl (.n rfl) rfl rfl rfl .f (.c (.o (.t rfl)) (.c (.o (.t rfl)) (.c (.o (.t rfl)) .n))) ?_
          show SOps ..
          refine mv rfl <| ext rfl rfl <| ext rfl rfl <| s_alloc (zv := .agg [.int .i64 0, .int .i64 0, .int .i64 0, .int .i64 0]) (es := [.val (rInt .i64) (0), .val (rInt .i64) (0), .val (rInt .i64) (0), .val (rInt .i64) (0)]) (by kernel_rfl) (fun _ => (okint (okint (okint (okint okn))))) rfl (.n rfl) rfl rfl ?_
          intro b125
          refine s_alloc (zv := .agg [.int .i64 0, .int .i64 0, .int .i64 0, .int .i64 0]) (es := [.val (rInt .i64) (0), .val (rInt .i64) (0), .val (rInt .i64) (0), .val (rInt .i64) (0)]) (by kernel_rfl) (fun _ => (okint (okint (okint (okint okn))))) rfl (.n rfl) rfl rfl ?_
          intro b127
          refine s_storebs 1 U87 rfl (c1 rfl (c1 rfl (c1 rfl (c1 rfl cells_unit)))) (by rfl) (.n rfl) rfl rfl (.t rfl) (.t rfl) (by rfl) <| s_st (st_freezeb (R := rTask) (a := y124.1) 1 [21] (c1 rfl (c1 rfl (c1 rfl (c1 rfl cells_unit)))) rfl rfl ⟨rfl, trivial⟩) ?_
          refine s_storebs 0 U87 rfl (c1 rfl (c1 rfl (c1 rfl (c1 rfl cells_unit)))) (by rfl) (.n rfl) rfl rfl (.t rfl) (.t rfl) (by rfl) <| s_st (st_freezeb (R := rTask) (a := y124.2) 0 [22] (c1 rfl (c1 rfl (c1 rfl (c1 rfl cells_unit)))) rfl rfl ⟨rfl, trivial⟩) ?_
          refine nq <| r_seq ?_
          refine r_draw [3] (by kernel_rfl) ?_
          refine fa F26_0 fk_Yard_0 (by decide) rfl <| ld U23 rfl <| faw F87_1 (by decide) rfl <| s_loadb 0 (fun _ h => by cases h <;> rfl) (U3).agg rfl (.n rfl) rfl rfl (.t rfl) rfl ?_
          obtain ⟨x129, hx129, ho⟩ := bnd ho
          refine ix S23 hx129 rfl rfl <| ld U29 rfl <| fa F87_0 fk_Task_0 (by decide) rfl <| ld U3 rfl ?_
          obtain ⟨x130, hx130, ho⟩ := bnd ho
          refine ix S29 hx130 rfl rfl <| ld U3 rfl <| sg rfl <| nq <| r_seq <| r_seq ?_
          obtain ⟨c132, hc132, ho⟩ := bnd ho
          refine r_cut (τ := (Bool)) (G := Unit) (fun t => (.normal, fun _ => ([(8, .val (rPtr rWorkRules) (p_3)), (13, .val (rInt .i64) (t106.2.2)), (18, .raw v115), (19, .val (rPtr rTask) (y117.1)), (20, .raw (.ptr b120 0)), (21, .val (rPtr rTask) (y124.1)), (22, .val (rPtr rTask) (y124.2)), (23, .val (rInt .i64) (x130)), (152, .val rBool (t))], [(.ptr b120 0, .box [.val (rInt .i64) (y117.2.1), .val (rInt .i64) (y117.2.2.1), .val (rInt .i64) (y117.2.2.2.1), .val (rInt .i64) (y117.2.2.2.2.1)]), (v115, .row (rInt .i64) (x114))]))) (t := c132) ?_ ?_
          · have ho := hc132
            clear hc132
            refine r_region <| fa F87_2 fk_Task_2 (by decide) rfl <| ld U3 rfl <| faw F87_3 (by decide) rfl <| s_loadb 0 (fun _ h => by cases h <;> rfl) (U3).agg rfl (.n rfl) rfl rfl (.t rfl) rfl <| cm rfl rfl .lss <| mv rfl ?_
            rcases Bool.eq_false_or_eq_true ((decide (y124.1.2.2.1 < y117.2.2.2.2.1))) with hb133 | hb133
            · have ho := cnd1 ho hb133
              refine skg (gf1 hb133) rfl rfl <| skg (gf1 hb133) rfl rfl <| pk1 hb133 rfl .b ?_
              cases ho
              exact s_nil (fun fr h s => And.intro rfl (Exists.intro () (s.pick [0, 1] ⟨rfl, rfl, rfl, rfl, rfl, rfl, rfl, rfl, rfl, trivial⟩ rfl (by decide))))
            · have ho := cnd0 ho hb133
              refine mvg (gf0 hb133) rfl rfl rfl <| s_cmp (.g rfl rfl (gf0 hb133)) rfl rfl (.t rfl) (.i (by decide) (by decide)) .lss <| pk0 hb133 rfl (.t rfl) ?_
              cases ho
              exact s_nil (fun fr h s => And.intro rfl (Exists.intro () (s.pick [0, 1] ⟨rfl, rfl, rfl, rfl, rfl, rfl, rfl, rfl, rfl, trivial⟩ rfl (by decide))))
          · intro _
            show SRun ..
            refine ct rfl (fun hq134 => ?_) (fun hq134 => ?_)
            · have ho := cnd1 ho hq134
              refine r_region <| mv rfl <| s_bs (R := (rInt .i64)) S63 Y68 (.n rfl) rfl rfl (.c (.i (by decide) (by decide)) .n) rfl (by decide) ?_
              obtain ⟨x135, hx135, ho⟩ := bnd ho
              refine s_app 1 S63 Y68 hx135 (.n rfl) rfl rfl rfl rfl rfl (.t rfl) rfl (.t rfl) rfl ?_
              intro v136
              refine sg rfl <| nq <| r_region <| ld U87 rfl <| s_storebs 1 U87 rfl (c1 rfl (c1 rfl (c1 rfl (c1 rfl cells_unit)))) (by rfl) (.n rfl) rfl rfl (.t rfl) (.t rfl) (by rfl) <| nq <| r_seq <| rr <| faw F87_3 (by decide) rfl <| s_loadb 1 (fun _ h => by cases h <;> rfl) (U3).agg rfl (.n rfl) rfl rfl (.t rfl) rfl <| fa F87_2 fk_Task_2 (by decide) rfl <| ld U3 rfl <| ar rfl rfl .sub <| fa F42_4 fk_WorkRules_4 (by decide) rfl ?_
              refine ld U3 rfl <| ar rfl rfl .add <| fa F42_5 fk_WorkRules_5 (by decide) rfl <| ld U3 rfl <| ar rfl rfl .add <| fa F42_1 fk_WorkRules_1 (by decide) rfl <| ld U3 rfl <| cm rfl rfl .gtr <| nq <| ct rfl (fun hq137 => ?_) (fun hq137 => ?_)
              · have ho := cnd1 ho hq137
                refine r_region <| mv rfl <| s_bs (R := (rInt .i64)) S63 Y68 (.n rfl) rfl rfl (.c (.i (by decide) (by decide)) .n) rfl (by decide) ?_
                obtain ⟨x138, hx138, ho⟩ := bnd ho
                refine s_app 0 S63 Y68 hx138 (.n rfl) rfl rfl rfl rfl rfl (.t rfl) rfl (.t rfl) rfl ?_
                intro v139
                refine sg rfl <| nq <| r_seq <| rr <| mv rfl <| fa F42_2 fk_WorkRules_2 (by decide) rfl <| ld U3 rfl <| cm rfl rfl .gtr <| nq <| ct rfl (fun hq140 => ?_) (fun hq140 => ?_)
                · have ho := cnd1 ho hq140
                  refine r_region <| mv rfl <| s_bs (R := (rInt .i64)) S63 Y68 (.n rfl) rfl rfl (.c (.i (by decide) (by decide)) .n) rfl (by decide) ?_
                  obtain ⟨x141, hx141, ho⟩ := bnd ho
                  refine s_app 0 S63 Y68 hx141 (.n rfl) rfl rfl rfl rfl rfl (.t rfl) rfl (.t rfl) rfl ?_
                  intro v142
                  refine sg rfl <| nq <| rr <| mv rfl <| sg rfl <| nq ?_
                  cases ho
                  exact r_ret (ret_of (.inr rfl) (.r 0 rfl rfl .n) (by decide))
                · have ho := cnd0 ho hq140
                  refine kq rfl <| rr <| mv rfl <| sg rfl <| nq ?_
                  cases ho
                  exact r_ret (ret_of (.inr rfl) (.r 0 rfl rfl .n) (by decide))
              · have ho := cnd0 ho hq137
                refine kq rfl <| r_seq <| rr <| mv rfl <| fa F42_2 fk_WorkRules_2 (by decide) rfl <| ld U3 rfl <| cm rfl rfl .gtr <| nq <| ct rfl (fun hq143 => ?_) (fun hq143 => ?_)
                · have ho := cnd1 ho hq143
                  refine r_region <| mv rfl <| s_bs (R := (rInt .i64)) S63 Y68 (.n rfl) rfl rfl (.c (.i (by decide) (by decide)) .n) rfl (by decide) ?_
                  obtain ⟨x144, hx144, ho⟩ := bnd ho
                  refine s_app 0 S63 Y68 hx144 (.n rfl) rfl rfl rfl rfl rfl (.t rfl) rfl (.t rfl) rfl ?_
                  intro v145
                  refine sg rfl <| nq <| rr <| mv rfl <| sg rfl <| nq ?_
                  cases ho
                  exact r_ret (ret_of (.inr rfl) (.r 0 rfl rfl .n) (by decide))
                · have ho := cnd0 ho hq143
                  refine kq rfl <| rr <| mv rfl <| sg rfl <| nq ?_
                  cases ho
                  exact r_ret (ret_of (.inr rfl) (.r 0 rfl rfl .n) (by decide))
            · have ho := cnd0 ho hq134
              refine rr <| fa F87_2 fk_Task_2 (by decide) rfl <| ld U3 rfl <| faw F87_3 (by decide) rfl <| s_loadb 0 (fun _ h => by cases h <;> rfl) (U3).agg rfl (.n rfl) rfl rfl (.t rfl) rfl <| ar rfl rfl .sub <| fa F42_3 fk_WorkRules_3 (by decide) rfl <| ld U3 rfl <| mv rfl <| ar rfl rfl .add <| cm rfl rfl .lss <| nq <| ct rfl (fun hq146 => ?_) (fun hq146 => ?_)
              · have ho := cnd1 ho hq146
                refine r_region <| mv rfl <| s_bs (R := (rInt .i64)) S63 Y68 (.n rfl) rfl rfl (.c (.i (by decide) (by decide)) .n) rfl (by decide) ?_
                obtain ⟨x147, hx147, ho⟩ := bnd ho
                refine s_app 1 S63 Y68 hx147 (.n rfl) rfl rfl rfl rfl rfl (.t rfl) rfl (.t rfl) rfl ?_
                intro v148
                refine sg rfl <| nq <| r_region <| ld U87 rfl <| s_storebs 1 U87 rfl (c1 rfl (c1 rfl (c1 rfl (c1 rfl cells_unit)))) (by rfl) (.n rfl) rfl rfl (.t rfl) (.t rfl) (by rfl) <| nq <| r_seq <| rr <| faw F87_3 (by decide) rfl <| s_loadb 1 (fun _ h => by cases h <;> rfl) (U3).agg rfl (.n rfl) rfl rfl (.t rfl) rfl <| fa F87_2 fk_Task_2 (by decide) rfl <| ld U3 rfl <| ar rfl rfl .sub <| fa F42_4 fk_WorkRules_4 (by decide) rfl ?_
                refine ld U3 rfl <| ar rfl rfl .add <| fa F42_5 fk_WorkRules_5 (by decide) rfl <| ld U3 rfl <| ar rfl rfl .add <| fa F42_1 fk_WorkRules_1 (by decide) rfl <| ld U3 rfl <| cm rfl rfl .gtr <| nq <| ct rfl (fun hq149 => ?_) (fun hq149 => ?_)
                · have ho := cnd1 ho hq149
                  refine r_region <| mv rfl <| s_bs (R := (rInt .i64)) S63 Y68 (.n rfl) rfl rfl (.c (.i (by decide) (by decide)) .n) rfl (by decide) ?_
                  obtain ⟨x150, hx150, ho⟩ := bnd ho
                  refine s_app 0 S63 Y68 hx150 (.n rfl) rfl rfl rfl rfl rfl (.t rfl) rfl (.t rfl) rfl ?_
                  intro v151
                  refine sg rfl <| nq <| r_seq <| rr <| mv rfl <| fa F42_2 fk_WorkRules_2 (by decide) rfl <| ld U3 rfl <| cm rfl rfl .gtr <| nq <| ct rfl (fun hq152 => ?_) (fun hq152 => ?_)
                  · have ho := cnd1 ho hq152
                    refine r_region <| mv rfl <| s_bs (R := (rInt .i64)) S63 Y68 (.n rfl) rfl rfl (.c (.i (by decide) (by decide)) .n) rfl (by decide) ?_
                    obtain ⟨x153, hx153, ho⟩ := bnd ho
                    refine s_app 0 S63 Y68 hx153 (.n rfl) rfl rfl rfl rfl rfl (.t rfl) rfl (.t rfl) rfl ?_
                    intro v154
                    refine sg rfl <| nq <| rr <| mv rfl <| sg rfl <| nq ?_
                    cases ho
                    exact r_ret (ret_of (.inr rfl) (.r 0 rfl rfl .n) (by decide))
                  · have ho := cnd0 ho hq152
                    refine kq rfl <| rr <| mv rfl <| sg rfl <| nq ?_
                    cases ho
                    exact r_ret (ret_of (.inr rfl) (.r 0 rfl rfl .n) (by decide))
                · have ho := cnd0 ho hq149
                  refine kq rfl <| r_seq <| rr <| mv rfl <| fa F42_2 fk_WorkRules_2 (by decide) rfl <| ld U3 rfl <| cm rfl rfl .gtr <| nq <| ct rfl (fun hq155 => ?_) (fun hq155 => ?_)
                  · have ho := cnd1 ho hq155
                    refine r_region <| mv rfl <| s_bs (R := (rInt .i64)) S63 Y68 (.n rfl) rfl rfl (.c (.i (by decide) (by decide)) .n) rfl (by decide) ?_
                    obtain ⟨x156, hx156, ho⟩ := bnd ho
                    refine s_app 0 S63 Y68 hx156 (.n rfl) rfl rfl rfl rfl rfl (.t rfl) rfl (.t rfl) rfl ?_
                    intro v157
                    refine sg rfl <| nq <| rr <| mv rfl <| sg rfl <| nq ?_
                    cases ho
                    exact r_ret (ret_of (.inr rfl) (.r 0 rfl rfl .n) (by decide))
                  · have ho := cnd0 ho hq155
                    refine kq rfl <| rr <| mv rfl <| sg rfl <| nq ?_
                    cases ho
                    exact r_ret (ret_of (.inr rfl) (.r 0 rfl rfl .n) (by decide))
              · have ho := cnd0 ho hq146
                refine kq rfl <| r_region <| ld U87 rfl <| s_storebs 0 U87 rfl (c1 rfl (c1 rfl (c1 rfl (c1 rfl cells_unit)))) (by rfl) (.n rfl) rfl rfl (.t rfl) (.t rfl) (by rfl) <| nq <| r_seq <| rr <| faw F87_3 (by decide) rfl <| s_loadb 0 (fun _ h => by cases h <;> rfl) (U3).agg rfl (.n rfl) rfl rfl (.t rfl) rfl <| fa F87_2 fk_Task_2 (by decide) rfl <| ld U3 rfl <| ar rfl rfl .sub <| fa F42_4 fk_WorkRules_4 (by decide) rfl ?_
                refine ld U3 rfl <| ar rfl rfl .add <| fa F42_5 fk_WorkRules_5 (by decide) rfl <| ld U3 rfl <| ar rfl rfl .add <| fa F42_1 fk_WorkRules_1 (by decide) rfl <| ld U3 rfl <| cm rfl rfl .gtr <| nq <| ct rfl (fun hq158 => ?_) (fun hq158 => ?_)
                · have ho := cnd1 ho hq158
                  refine r_region <| mv rfl <| s_bs (R := (rInt .i64)) S63 Y68 (.n rfl) rfl rfl (.c (.i (by decide) (by decide)) .n) rfl (by decide) ?_
                  obtain ⟨x159, hx159, ho⟩ := bnd ho
                  refine s_app 1 S63 Y68 hx159 (.n rfl) rfl rfl rfl rfl rfl (.t rfl) rfl (.t rfl) rfl ?_
                  intro v160
                  refine sg rfl <| nq <| r_seq <| rr <| mv rfl <| fa F42_2 fk_WorkRules_2 (by decide) rfl <| ld U3 rfl <| cm rfl rfl .gtr <| nq <| ct rfl (fun hq161 => ?_) (fun hq161 => ?_)
                  · have ho := cnd1 ho hq161
                    refine r_region <| mv rfl <| s_bs (R := (rInt .i64)) S63 Y68 (.n rfl) rfl rfl (.c (.i (by decide) (by decide)) .n) rfl (by decide) ?_
                    obtain ⟨x162, hx162, ho⟩ := bnd ho
                    refine s_app 0 S63 Y68 hx162 (.n rfl) rfl rfl rfl rfl rfl (.t rfl) rfl (.t rfl) rfl ?_
                    intro v163
                    refine sg rfl <| nq <| rr <| mv rfl <| sg rfl <| nq ?_
                    cases ho
                    exact r_ret (ret_of (.inr rfl) (.r 0 rfl rfl .n) (by decide))
                  · have ho := cnd0 ho hq161
                    refine kq rfl <| rr <| mv rfl <| sg rfl <| nq ?_
                    cases ho
                    exact r_ret (ret_of (.inr rfl) (.r 0 rfl rfl .n) (by decide))
                · have ho := cnd0 ho hq158
                  refine kq rfl <| r_seq <| rr <| mv rfl <| fa F42_2 fk_WorkRules_2 (by decide) rfl <| ld U3 rfl <| cm rfl rfl .gtr <| nq <| ct rfl (fun hq164 => ?_) (fun hq164 => ?_)
                  · have ho := cnd1 ho hq164
                    refine r_region <| mv rfl <| s_bs (R := (rInt .i64)) S63 Y68 (.n rfl) rfl rfl (.c (.i (by decide) (by decide)) .n) rfl (by decide) ?_
                    obtain ⟨x165, hx165, ho⟩ := bnd ho
                    refine s_app 1 S63 Y68 hx165 (.n rfl) rfl rfl rfl rfl rfl (.t rfl) rfl (.t rfl) rfl ?_
                    intro v166
                    refine sg rfl <| nq <| rr <| mv rfl <| sg rfl <| nq ?_
                    cases ho
                    exact r_ret (ret_of (.inr rfl) (.r 0 rfl rfl .n) (by decide))
                  · have ho := cnd0 ho hq164
                    refine kq rfl <| rr <| mv rfl <| sg rfl <| nq ?_
                    cases ho
                    exact r_ret (ret_of (.inr rfl) (.r 1 rfl rfl .n) (by decide))
        · have ho := cnd0 ho hq122
          refine kq rfl <| r_seq <| rr <| faw F87_3 (by decide) rfl <| s_loadb 0 (fun _ h => by cases h <;> rfl) (U3).agg rfl (.n rfl) rfl rfl (.t rfl) rfl <| fa F87_2 fk_Task_2 (by decide) rfl <| ld U3 rfl <| ar rfl rfl .sub <| fa F42_4 fk_WorkRules_4 (by decide) rfl <| ld U3 rfl <| ar rfl rfl .add <| fa F42_5 fk_WorkRules_5 (by decide) rfl <| ld U3 rfl <| ar rfl rfl .add <| fa F42_1 fk_WorkRules_1 (by decide) rfl ?_
          refine ld U3 rfl <| cm rfl rfl .gtr <| nq <| ct rfl (fun hq167 => ?_) (fun hq167 => ?_)
          · have ho := cnd1 ho hq167
            refine r_region <| mv rfl <| s_bs (R := (rInt .i64)) S63 Y68 (.n rfl) rfl rfl (.c (.i (by decide) (by decide)) .n) rfl (by decide) ?_
            obtain ⟨x168, hx168, ho⟩ := bnd ho
            refine s_app 1 S63 Y68 hx168 (.n rfl) rfl rfl rfl rfl rfl (.t rfl) rfl (.t rfl) rfl ?_
            intro v169
            refine sg rfl <| nq <| r_seq <| rr <| mv rfl <| fa F42_2 fk_WorkRules_2 (by decide) rfl <| ld U3 rfl <| cm rfl rfl .gtr <| nq <| ct rfl (fun hq170 => ?_) (fun hq170 => ?_)
            · have ho := cnd1 ho hq170
              refine r_region <| mv rfl <| s_bs (R := (rInt .i64)) S63 Y68 (.n rfl) rfl rfl (.c (.i (by decide) (by decide)) .n) rfl (by decide) ?_
              obtain ⟨x171, hx171, ho⟩ := bnd ho
              refine s_app 0 S63 Y68 hx171 (.n rfl) rfl rfl rfl rfl rfl (.t rfl) rfl (.t rfl) rfl ?_
              intro v172
              refine sg rfl <| nq <| rr <| mv rfl <| sg rfl <| nq ?_
              cases ho
              exact r_ret (ret_of (.inr rfl) (.r 0 rfl rfl .n) (by decide))
            · have ho := cnd0 ho hq170
              refine kq rfl <| rr <| mv rfl <| sg rfl <| nq ?_
              cases ho
              exact r_ret (ret_of (.inr rfl) (.r 0 rfl rfl .n) (by decide))
          · have ho := cnd0 ho hq167
            refine kq rfl <| r_seq <| rr <| mv rfl <| fa F42_2 fk_WorkRules_2 (by decide) rfl <| ld U3 rfl <| cm rfl rfl .gtr <| nq <| ct rfl (fun hq173 => ?_) (fun hq173 => ?_)
            · have ho := cnd1 ho hq173
              refine r_region <| mv rfl <| s_bs (R := (rInt .i64)) S63 Y68 (.n rfl) rfl rfl (.c (.i (by decide) (by decide)) .n) rfl (by decide) ?_
              obtain ⟨x174, hx174, ho⟩ := bnd ho
              refine s_app 1 S63 Y68 hx174 (.n rfl) rfl rfl rfl rfl rfl (.t rfl) rfl (.t rfl) rfl ?_
              intro v175
              refine sg rfl <| nq <| rr <| mv rfl <| sg rfl <| nq ?_
              cases ho
              exact r_ret (ret_of (.inr rfl) (.r 0 rfl rfl .n) (by decide))
            · have ho := cnd0 ho hq173
              refine kq rfl <| rr <| mv rfl <| sg rfl <| nq ?_
              cases ho
              exact r_ret (ret_of (.inr rfl) (.r 1 rfl rfl .n) (by decide))
      · have ho := cnd0 ho hq113
        refine kq rfl <| rr <| mv rfl <| mv rfl <| fa F62_0 fk_Duty_0 (by decide) rfl <| ld U60 rfl ?_
        obtain ⟨x176, hx176, ho⟩ := bnd ho
        refine s_idx S60 hx176 (.n rfl) rfl rfl (.t rfl) (.i (by decide) (by decide)) <| ld U78 rfl ?_
        obtain ⟨y177, hy177, ho⟩ := bnd ho
        refine s_calll (g_ref08_ends_ok hy177) (.v (flat_pair flat_int (flat_pair flat_int (flat_pair flat_int (flat_pair flat_int flat_unit)))) (.v (flat_pair flat_int (flat_pair flat_int (flat_pair flat_int (flat_pair flat_int flat_unit)))) .n)) rfl (.n rfl) rfl rfl rfl .f (.c (.o (.t rfl)) (.c (.o (.t rfl)) (.c (.o (.t rfl)) .n))) ?_
        show SOps ..
        refine mv rfl <| ext rfl rfl <| ext rfl rfl <| s_alloc (zv := .agg [.int .i64 0, .int .i64 0, .int .i64 0, .int .i64 0]) (es := [.val (rInt .i64) (0), .val (rInt .i64) (0), .val (rInt .i64) (0), .val (rInt .i64) (0)]) (by kernel_rfl) (fun _ => (okint (okint (okint (okint okn))))) rfl (.n rfl) rfl rfl ?_
        intro b178
        refine s_alloc (zv := .agg [.int .i64 0, .int .i64 0, .int .i64 0, .int .i64 0]) (es := [.val (rInt .i64) (0), .val (rInt .i64) (0), .val (rInt .i64) (0), .val (rInt .i64) (0)]) (by kernel_rfl) (fun _ => (okint (okint (okint (okint okn))))) rfl (.n rfl) rfl rfl ?_
        intro b180
        refine s_storebs 1 U87 rfl (c1 rfl (c1 rfl (c1 rfl (c1 rfl cells_unit)))) (by rfl) (.n rfl) rfl rfl (.t rfl) (.t rfl) (by rfl) <| s_st (st_freezeb (R := rTask) (a := y177.1) 1 [19] (c1 rfl (c1 rfl (c1 rfl (c1 rfl cells_unit)))) rfl rfl ⟨rfl, trivial⟩) ?_
        refine s_storebs 0 U87 rfl (c1 rfl (c1 rfl (c1 rfl (c1 rfl cells_unit)))) (by rfl) (.n rfl) rfl rfl (.t rfl) (.t rfl) (by rfl) <| nq <| r_seq <| rr <| fa F62_0 fk_Duty_0 (by decide) rfl <| ld U60 rfl <| ln S60 rfl rfl rfl (.t rfl) <| cmc rfl (by decide) .eql <| nq <| ct rfl (fun hq182 => ?_) (fun hq182 => ?_)
        · have ho := cnd1 ho hq182
          refine rr <| mv rfl <| mv rfl <| fa F62_0 fk_Duty_0 (by decide) rfl <| ld U60 rfl ?_
          obtain ⟨x183, hx183, ho⟩ := bnd ho
          refine s_idx S60 hx183 (.n rfl) rfl rfl (.t rfl) (.i (by decide) (by decide)) <| ld U78 rfl ?_
          obtain ⟨y184, hy184, ho⟩ := bnd ho
          refine s_calll (g_ref08_ends_ok hy184) (.v (flat_pair flat_int (flat_pair flat_int (flat_pair flat_int (flat_pair flat_int flat_unit)))) (.v (flat_pair flat_int (flat_pair flat_int (flat_pair flat_int (flat_pair flat_int flat_unit)))) .n)) rfl (.n rfl) rfl rfl rfl .f (.c (.o (.t rfl)) (.c (.o (.t rfl)) (.c (.o (.t rfl)) .n))) ?_
          show SOps ..
          refine mv rfl <| ext rfl rfl <| ext rfl rfl <| s_alloc (zv := .agg [.int .i64 0, .int .i64 0, .int .i64 0, .int .i64 0]) (es := [.val (rInt .i64) (0), .val (rInt .i64) (0), .val (rInt .i64) (0), .val (rInt .i64) (0)]) (by kernel_rfl) (fun _ => (okint (okint (okint (okint okn))))) rfl (.n rfl) rfl rfl ?_
          intro b185
          refine s_alloc (zv := .agg [.int .i64 0, .int .i64 0, .int .i64 0, .int .i64 0]) (es := [.val (rInt .i64) (0), .val (rInt .i64) (0), .val (rInt .i64) (0), .val (rInt .i64) (0)]) (by kernel_rfl) (fun _ => (okint (okint (okint (okint okn))))) rfl (.n rfl) rfl rfl ?_
          intro b187
          refine s_storebs 1 U87 rfl (c1 rfl (c1 rfl (c1 rfl (c1 rfl cells_unit)))) (by rfl) (.n rfl) rfl rfl (.t rfl) (.t rfl) (by rfl) <| s_st (st_freezeb (R := rTask) (a := y184.1) 1 [21] (c1 rfl (c1 rfl (c1 rfl (c1 rfl cells_unit)))) rfl rfl ⟨rfl, trivial⟩) ?_
          refine s_storebs 0 U87 rfl (c1 rfl (c1 rfl (c1 rfl (c1 rfl cells_unit)))) (by rfl) (.n rfl) rfl rfl (.t rfl) (.t rfl) (by rfl) <| s_st (st_freezeb (R := rTask) (a := y184.2) 0 [22] (c1 rfl (c1 rfl (c1 rfl (c1 rfl cells_unit)))) rfl rfl ⟨rfl, trivial⟩) ?_
          refine nq <| r_seq ?_
          refine r_draw [3] (by kernel_rfl) ?_
          refine fa F26_0 fk_Yard_0 (by decide) rfl <| ld U23 rfl <| faw F87_1 (by decide) rfl <| s_loadb 0 (fun _ h => by cases h <;> rfl) (U3).agg rfl (.n rfl) rfl rfl (.t rfl) rfl ?_
          obtain ⟨x189, hx189, ho⟩ := bnd ho
          refine ix S23 hx189 rfl rfl <| ld U29 rfl <| fa F87_0 fk_Task_0 (by decide) rfl <| ld U3 rfl ?_
          obtain ⟨x190, hx190, ho⟩ := bnd ho
          refine ix S29 hx190 rfl rfl <| ld U3 rfl <| sg rfl <| nq <| r_seq <| r_seq ?_
          obtain ⟨c192, hc192, ho⟩ := bnd ho
          refine r_cut (τ := (Bool)) (G := Unit) (fun t => (.normal, fun _ => ([(8, .val (rPtr rWorkRules) (p_3)), (13, .val (rInt .i64) (t106.2.2)), (18, .raw v112), (19, .val (rPtr rTask) (y177.1)), (20, .raw (.ptr b180 0)), (21, .val (rPtr rTask) (y184.1)), (22, .val (rPtr rTask) (y184.2)), (23, .val (rInt .i64) (x190)), (152, .val rBool (t))], [(.ptr b180 0, .box [.val (rInt .i64) (y177.2.1), .val (rInt .i64) (y177.2.2.1), .val (rInt .i64) (y177.2.2.2.1), .val (rInt .i64) (y177.2.2.2.2.1)]), (v112, .row (rInt .i64) (x111))]))) (t := c192) ?_ ?_
          · have ho := hc192
            clear hc192
            refine r_region <| fa F87_2 fk_Task_2 (by decide) rfl <| ld U3 rfl <| faw F87_3 (by decide) rfl <| s_loadb 0 (fun _ h => by cases h <;> rfl) (U3).agg rfl (.n rfl) rfl rfl (.t rfl) rfl <| cm rfl rfl .lss <| mv rfl ?_
            rcases Bool.eq_false_or_eq_true ((decide (y184.1.2.2.1 < y177.2.2.2.2.1))) with hb193 | hb193
            · have ho := cnd1 ho hb193
              refine skg (gf1 hb193) rfl rfl <| skg (gf1 hb193) rfl rfl <| pk1 hb193 rfl .b ?_
              cases ho
              exact s_nil (fun fr h s => And.intro rfl (Exists.intro () (s.pick [0, 1] ⟨rfl, rfl, rfl, rfl, rfl, rfl, rfl, rfl, rfl, trivial⟩ rfl (by decide))))
            · have ho := cnd0 ho hb193
              refine mvg (gf0 hb193) rfl rfl rfl <| s_cmp (.g rfl rfl (gf0 hb193)) rfl rfl (.t rfl) (.i (by decide) (by decide)) .lss <| pk0 hb193 rfl (.t rfl) ?_
              cases ho
              exact s_nil (fun fr h s => And.intro rfl (Exists.intro () (s.pick [0, 1] ⟨rfl, rfl, rfl, rfl, rfl, rfl, rfl, rfl, rfl, trivial⟩ rfl (by decide))))
          · intro _
            show SRun ..
            refine ct rfl (fun hq194 => ?_) (fun hq194 => ?_)
            · have ho := cnd1 ho hq194
              refine r_region <| mv rfl <| s_bs (R := (rInt .i64)) S63 Y68 (.n rfl) rfl rfl (.c (.i (by decide) (by decide)) .n) rfl (by decide) ?_
              obtain ⟨x195, hx195, ho⟩ := bnd ho
              refine s_app 1 S63 Y68 hx195 (.n rfl) rfl rfl rfl rfl rfl (.t rfl) rfl (.t rfl) rfl ?_
              intro v196
              refine sg rfl <| nq <| r_region <| ld U87 rfl <| s_storebs 1 U87 rfl (c1 rfl (c1 rfl (c1 rfl (c1 rfl cells_unit)))) (by rfl) (.n rfl) rfl rfl (.t rfl) (.t rfl) (by rfl) <| nq <| r_seq <| rr <| faw F87_3 (by decide) rfl <| s_loadb 1 (fun _ h => by cases h <;> rfl) (U3).agg rfl (.n rfl) rfl rfl (.t rfl) rfl <| fa F87_2 fk_Task_2 (by decide) rfl <| ld U3 rfl <| ar rfl rfl .sub <| fa F42_4 fk_WorkRules_4 (by decide) rfl ?_
              refine ld U3 rfl <| ar rfl rfl .add <| fa F42_5 fk_WorkRules_5 (by decide) rfl <| ld U3 rfl <| ar rfl rfl .add <| fa F42_1 fk_WorkRules_1 (by decide) rfl <| ld U3 rfl <| cm rfl rfl .gtr <| nq <| ct rfl (fun hq197 => ?_) (fun hq197 => ?_)
              · have ho := cnd1 ho hq197
                refine r_region <| mv rfl <| s_bs (R := (rInt .i64)) S63 Y68 (.n rfl) rfl rfl (.c (.i (by decide) (by decide)) .n) rfl (by decide) ?_
                obtain ⟨x198, hx198, ho⟩ := bnd ho
                refine s_app 0 S63 Y68 hx198 (.n rfl) rfl rfl rfl rfl rfl (.t rfl) rfl (.t rfl) rfl ?_
                intro v199
                refine sg rfl <| nq <| r_seq <| rr <| mv rfl <| fa F42_2 fk_WorkRules_2 (by decide) rfl <| ld U3 rfl <| cm rfl rfl .gtr <| nq <| ct rfl (fun hq200 => ?_) (fun hq200 => ?_)
                · have ho := cnd1 ho hq200
                  refine r_region <| mv rfl <| s_bs (R := (rInt .i64)) S63 Y68 (.n rfl) rfl rfl (.c (.i (by decide) (by decide)) .n) rfl (by decide) ?_
                  obtain ⟨x201, hx201, ho⟩ := bnd ho
                  refine s_app 0 S63 Y68 hx201 (.n rfl) rfl rfl rfl rfl rfl (.t rfl) rfl (.t rfl) rfl ?_
                  intro v202
                  refine sg rfl <| nq <| rr <| mv rfl <| sg rfl <| nq ?_
                  cases ho
                  exact r_ret (ret_of (.inr rfl) (.r 0 rfl rfl .n) (by decide))
                · have ho := cnd0 ho hq200
                  refine kq rfl <| rr <| mv rfl <| sg rfl <| nq ?_
                  cases ho
                  exact r_ret (ret_of (.inr rfl) (.r 0 rfl rfl .n) (by decide))
              · have ho := cnd0 ho hq197
                refine kq rfl <| r_seq <| rr <| mv rfl <| fa F42_2 fk_WorkRules_2 (by decide) rfl <| ld U3 rfl <| cm rfl rfl .gtr <| nq <| ct rfl (fun hq203 => ?_) (fun hq203 => ?_)
                · have ho := cnd1 ho hq203
                  refine r_region <| mv rfl <| s_bs (R := (rInt .i64)) S63 Y68 (.n rfl) rfl rfl (.c (.i (by decide) (by decide)) .n) rfl (by decide) ?_
                  obtain ⟨x204, hx204, ho⟩ := bnd ho
                  refine s_app 0 S63 Y68 hx204 (.n rfl) rfl rfl rfl rfl rfl (.t rfl) rfl (.t rfl) rfl ?_
                  intro v205
                  refine sg rfl <| nq <| rr <| mv rfl <| sg rfl <| nq ?_
                  cases ho
                  exact r_ret (ret_of (.inr rfl) (.r 0 rfl rfl .n) (by decide))
                · have ho := cnd0 ho hq203
                  refine kq rfl <| rr <| mv rfl <| sg rfl <| nq ?_
                  cases ho
                  exact r_ret (ret_of (.inr rfl) (.r 0 rfl rfl .n) (by decide))
            · have ho := cnd0 ho hq194
              refine rr <| fa F87_2 fk_Task_2 (by decide) rfl <| ld U3 rfl <| faw F87_3 (by decide) rfl <| s_loadb 0 (fun _ h => by cases h <;> rfl) (U3).agg rfl (.n rfl) rfl rfl (.t rfl) rfl <| ar rfl rfl .sub <| fa F42_3 fk_WorkRules_3 (by decide) rfl <| ld U3 rfl <| mv rfl <| ar rfl rfl .add <| cm rfl rfl .lss <| nq <| ct rfl (fun hq206 => ?_) (fun hq206 => ?_)
              · have ho := cnd1 ho hq206
                refine r_region <| mv rfl <| s_bs (R := (rInt .i64)) S63 Y68 (.n rfl) rfl rfl (.c (.i (by decide) (by decide)) .n) rfl (by decide) ?_
                obtain ⟨x207, hx207, ho⟩ := bnd ho
                refine s_app 1 S63 Y68 hx207 (.n rfl) rfl rfl rfl rfl rfl (.t rfl) rfl (.t rfl) rfl ?_
                intro v208
                refine sg rfl <| nq <| r_region <| ld U87 rfl <| s_storebs 1 U87 rfl (c1 rfl (c1 rfl (c1 rfl (c1 rfl cells_unit)))) (by rfl) (.n rfl) rfl rfl (.t rfl) (.t rfl) (by rfl) <| nq <| r_seq <| rr <| faw F87_3 (by decide) rfl <| s_loadb 1 (fun _ h => by cases h <;> rfl) (U3).agg rfl (.n rfl) rfl rfl (.t rfl) rfl <| fa F87_2 fk_Task_2 (by decide) rfl <| ld U3 rfl <| ar rfl rfl .sub <| fa F42_4 fk_WorkRules_4 (by decide) rfl ?_
                refine ld U3 rfl <| ar rfl rfl .add <| fa F42_5 fk_WorkRules_5 (by decide) rfl <| ld U3 rfl <| ar rfl rfl .add <| fa F42_1 fk_WorkRules_1 (by decide) rfl <| ld U3 rfl <| cm rfl rfl .gtr <| nq <| ct rfl (fun hq209 => ?_) (fun hq209 => ?_)
                · have ho := cnd1 ho hq209
                  refine r_region <| mv rfl <| s_bs (R := (rInt .i64)) S63 Y68 (.n rfl) rfl rfl (.c (.i (by decide) (by decide)) .n) rfl (by decide) ?_
                  obtain ⟨x210, hx210, ho⟩ := bnd ho
                  refine s_app 0 S63 Y68 hx210 (.n rfl) rfl rfl rfl rfl rfl (.t rfl) rfl (.t rfl) rfl ?_
                  intro v211
                  refine sg rfl <| nq <| r_seq <| rr <| mv rfl <| fa F42_2 fk_WorkRules_2 (by decide) rfl <| ld U3 rfl <| cm rfl rfl .gtr <| nq <| ct rfl (fun hq212 => ?_) (fun hq212 => ?_)
                  · have ho := cnd1 ho hq212
                    refine r_region <| mv rfl <| s_bs (R := (rInt .i64)) S63 Y68 (.n rfl) rfl rfl (.c (.i (by decide) (by decide)) .n) rfl (by decide) ?_
                    obtain ⟨x213, hx213, ho⟩ := bnd ho
                    refine s_app 0 S63 Y68 hx213 (.n rfl) rfl rfl rfl rfl rfl (.t rfl) rfl (.t rfl) rfl ?_
                    intro v214
                    refine sg rfl <| nq <| rr <| mv rfl <| sg rfl <| nq ?_
                    cases ho
                    exact r_ret (ret_of (.inr rfl) (.r 0 rfl rfl .n) (by decide))
                  · have ho := cnd0 ho hq212
                    refine kq rfl <| rr <| mv rfl <| sg rfl <| nq ?_
                    cases ho
                    exact r_ret (ret_of (.inr rfl) (.r 0 rfl rfl .n) (by decide))
                · have ho := cnd0 ho hq209
                  refine kq rfl <| r_seq <| rr <| mv rfl <| fa F42_2 fk_WorkRules_2 (by decide) rfl <| ld U3 rfl <| cm rfl rfl .gtr <| nq <| ct rfl (fun hq215 => ?_) (fun hq215 => ?_)
                  · have ho := cnd1 ho hq215
                    refine r_region <| mv rfl <| s_bs (R := (rInt .i64)) S63 Y68 (.n rfl) rfl rfl (.c (.i (by decide) (by decide)) .n) rfl (by decide) ?_
                    obtain ⟨x216, hx216, ho⟩ := bnd ho
                    refine s_app 0 S63 Y68 hx216 (.n rfl) rfl rfl rfl rfl rfl (.t rfl) rfl (.t rfl) rfl ?_
                    intro v217
                    refine sg rfl <| nq <| rr <| mv rfl <| sg rfl <| nq ?_
                    cases ho
                    exact r_ret (ret_of (.inr rfl) (.r 0 rfl rfl .n) (by decide))
                  · have ho := cnd0 ho hq215
                    refine kq rfl <| rr <| mv rfl <| sg rfl <| nq ?_
                    cases ho
                    exact r_ret (ret_of (.inr rfl) (.r 0 rfl rfl .n) (by decide))
              · have ho := cnd0 ho hq206
                refine kq rfl <| r_region <| ld U87 rfl <| s_storebs 0 U87 rfl (c1 rfl (c1 rfl (c1 rfl (c1 rfl cells_unit)))) (by rfl) (.n rfl) rfl rfl (.t rfl) (.t rfl) (by rfl) <| nq <| r_seq <| rr <| faw F87_3 (by decide) rfl <| s_loadb 0 (fun _ h => by cases h <;> rfl) (U3).agg rfl (.n rfl) rfl rfl (.t rfl) rfl <| fa F87_2 fk_Task_2 (by decide) rfl <| ld U3 rfl <| ar rfl rfl .sub <| fa F42_4 fk_WorkRules_4 (by decide) rfl ?_
                refine ld U3 rfl <| ar rfl rfl .add <| fa F42_5 fk_WorkRules_5 (by decide) rfl <| ld U3 rfl <| ar rfl rfl .add <| fa F42_1 fk_WorkRules_1 (by decide) rfl <| ld U3 rfl <| cm rfl rfl .gtr <| nq <| ct rfl (fun hq218 => ?_) (fun hq218 => ?_)
                · have ho := cnd1 ho hq218
                  refine r_region <| mv rfl <| s_bs (R := (rInt .i64)) S63 Y68 (.n rfl) rfl rfl (.c (.i (by decide) (by decide)) .n) rfl (by decide) ?_
                  obtain ⟨x219, hx219, ho⟩ := bnd ho
                  refine s_app 1 S63 Y68 hx219 (.n rfl) rfl rfl rfl rfl rfl (.t rfl) rfl (.t rfl) rfl ?_
                  intro v220
                  refine sg rfl <| nq <| r_seq <| rr <| mv rfl <| fa F42_2 fk_WorkRules_2 (by decide) rfl <| ld U3 rfl <| cm rfl rfl .gtr <| nq <| ct rfl (fun hq221 => ?_) (fun hq221 => ?_)
                  · have ho := cnd1 ho hq221
                    refine r_region <| mv rfl <| s_bs (R := (rInt .i64)) S63 Y68 (.n rfl) rfl rfl (.c (.i (by decide) (by decide)) .n) rfl (by decide) ?_
                    obtain ⟨x222, hx222, ho⟩ := bnd ho
                    refine s_app 0 S63 Y68 hx222 (.n rfl) rfl rfl rfl rfl rfl (.t rfl) rfl (.t rfl) rfl ?_
                    intro v223
                    refine sg rfl <| nq <| rr <| mv rfl <| sg rfl <| nq ?_
                    cases ho
                    exact r_ret (ret_of (.inr rfl) (.r 0 rfl rfl .n) (by decide))
                  · have ho := cnd0 ho hq221
                    refine kq rfl <| rr <| mv rfl <| sg rfl <| nq ?_
                    cases ho
                    exact r_ret (ret_of (.inr rfl) (.r 0 rfl rfl .n) (by decide))
                · have ho := cnd0 ho hq218
                  refine kq rfl <| r_seq <| rr <| mv rfl <| fa F42_2 fk_WorkRules_2 (by decide) rfl <| ld U3 rfl <| cm rfl rfl .gtr <| nq <| ct rfl (fun hq224 => ?_) (fun hq224 => ?_)
                  · have ho := cnd1 ho hq224
                    refine r_region <| mv rfl <| s_bs (R := (rInt .i64)) S63 Y68 (.n rfl) rfl rfl (.c (.i (by decide) (by decide)) .n) rfl (by decide) ?_
                    obtain ⟨x225, hx225, ho⟩ := bnd ho
                    refine s_app 1 S63 Y68 hx225 (.n rfl) rfl rfl rfl rfl rfl (.t rfl) rfl (.t rfl) rfl ?_
                    intro v226
                    refine sg rfl <| nq <| rr <| mv rfl <| sg rfl <| nq ?_
                    cases ho
                    exact r_ret (ret_of (.inr rfl) (.r 0 rfl rfl .n) (by decide))
                  · have ho := cnd0 ho hq224
                    refine kq rfl <| rr <| mv rfl <| sg rfl <| nq ?_
                    cases ho
                    exact r_ret (ret_of (.inr rfl) (.r 1 rfl rfl .n) (by decide))
        · have ho := cnd0 ho hq182
          refine kq rfl <| r_seq <| rr <| faw F87_3 (by decide) rfl <| s_loadb 0 (fun _ h => by cases h <;> rfl) (U3).agg rfl (.n rfl) rfl rfl (.t rfl) rfl <| fa F87_2 fk_Task_2 (by decide) rfl <| ld U3 rfl <| ar rfl rfl .sub <| fa F42_4 fk_WorkRules_4 (by decide) rfl <| ld U3 rfl <| ar rfl rfl .add <| fa F42_5 fk_WorkRules_5 (by decide) rfl <| ld U3 rfl <| ar rfl rfl .add <| fa F42_1 fk_WorkRules_1 (by decide) rfl ?_
          refine ld U3 rfl <| cm rfl rfl .gtr <| nq <| ct rfl (fun hq227 => ?_) (fun hq227 => ?_)
          · have ho := cnd1 ho hq227
            refine r_region <| mv rfl <| s_bs (R := (rInt .i64)) S63 Y68 (.n rfl) rfl rfl (.c (.i (by decide) (by decide)) .n) rfl (by decide) ?_
            obtain ⟨x228, hx228, ho⟩ := bnd ho
            refine s_app 1 S63 Y68 hx228 (.n rfl) rfl rfl rfl rfl rfl (.t rfl) rfl (.t rfl) rfl ?_
            intro v229
            refine sg rfl <| nq <| r_seq <| rr <| mv rfl <| fa F42_2 fk_WorkRules_2 (by decide) rfl <| ld U3 rfl <| cm rfl rfl .gtr <| nq <| ct rfl (fun hq230 => ?_) (fun hq230 => ?_)
            · have ho := cnd1 ho hq230
              refine r_region <| mv rfl <| s_bs (R := (rInt .i64)) S63 Y68 (.n rfl) rfl rfl (.c (.i (by decide) (by decide)) .n) rfl (by decide) ?_
              obtain ⟨x231, hx231, ho⟩ := bnd ho
              refine s_app 0 S63 Y68 hx231 (.n rfl) rfl rfl rfl rfl rfl (.t rfl) rfl (.t rfl) rfl ?_
              intro v232
              refine sg rfl <| nq <| rr <| mv rfl <| sg rfl <| nq ?_
              cases ho
              exact r_ret (ret_of (.inr rfl) (.r 0 rfl rfl .n) (by decide))
            · have ho := cnd0 ho hq230
              refine kq rfl <| rr <| mv rfl <| sg rfl <| nq ?_
              cases ho
              exact r_ret (ret_of (.inr rfl) (.r 0 rfl rfl .n) (by decide))
          · have ho := cnd0 ho hq227
            refine kq rfl <| r_seq <| rr <| mv rfl <| fa F42_2 fk_WorkRules_2 (by decide) rfl <| ld U3 rfl <| cm rfl rfl .gtr <| nq <| ct rfl (fun hq233 => ?_) (fun hq233 => ?_)
            · have ho := cnd1 ho hq233
              refine r_region <| mv rfl <| s_bs (R := (rInt .i64)) S63 Y68 (.n rfl) rfl rfl (.c (.i (by decide) (by decide)) .n) rfl (by decide) ?_
              obtain ⟨x234, hx234, ho⟩ := bnd ho
              refine s_app 1 S63 Y68 hx234 (.n rfl) rfl rfl rfl rfl rfl (.t rfl) rfl (.t rfl) rfl ?_
              intro v235
              refine sg rfl <| nq <| rr <| mv rfl <| sg rfl <| nq ?_
              cases ho
              exact r_ret (ret_of (.inr rfl) (.r 0 rfl rfl .n) (by decide))
            · have ho := cnd0 ho hq233
              refine kq rfl <| rr <| mv rfl <| sg rfl <| nq ?_
              cases ho
              exact r_ret (ret_of (.inr rfl) (.r 1 rfl rfl .n) (by decide))
    · have ho := cnd0 ho hq110
      refine kq rfl <| r_seq <| rr <| mv rfl <| nq <| ct rfl (fun hq236 => ?_) (fun hq236 => ?_)
      · have ho := cnd1 ho hq236
        refine r_region <| mv rfl <| s_bs (R := (rInt .i64)) S63 Y68 (.n rfl) rfl rfl (.c (.i (by decide) (by decide)) .n) rfl (by decide) ?_
        obtain ⟨x237, hx237, ho⟩ := bnd ho
        refine s_app 0 S63 Y68 hx237 (.n rfl) rfl rfl rfl rfl rfl (.t rfl) rfl (.t rfl) rfl ?_
        intro v238
        refine sg rfl <| nq <| rr <| mv rfl <| mv rfl <| fa F62_0 fk_Duty_0 (by decide) rfl <| ld U60 rfl ?_
        obtain ⟨x239, hx239, ho⟩ := bnd ho
        refine s_idx S60 hx239 (.n rfl) rfl rfl (.t rfl) (.i (by decide) (by decide)) <| ld U78 rfl ?_
        obtain ⟨y240, hy240, ho⟩ := bnd ho
        refine s_calll (g_ref08_ends_ok hy240) (.v (flat_pair flat_int (flat_pair flat_int (flat_pair flat_int (flat_pair flat_int flat_unit)))) (.v (flat_pair flat_int (flat_pair flat_int (flat_pair flat_int (flat_pair flat_int flat_unit)))) .n)) rfl (.n rfl) rfl rfl rfl .f (.c (.o (.t rfl)) (.c (.o (.t rfl)) (.c (.o (.t rfl)) .n))) ?_
        show SOps ..
        refine mv rfl <| ext rfl rfl <| ext rfl rfl <| s_alloc (zv := .agg [.int .i64 0, .int .i64 0, .int .i64 0, .int .i64 0]) (es := [.val (rInt .i64) (0), .val (rInt .i64) (0), .val (rInt .i64) (0), .val (rInt .i64) (0)]) (by kernel_rfl) (fun _ => (okint (okint (okint (okint okn))))) rfl (.n rfl) rfl rfl ?_
        intro b241
        refine s_alloc (zv := .agg [.int .i64 0, .int .i64 0, .int .i64 0, .int .i64 0]) (es := [.val (rInt .i64) (0), .val (rInt .i64) (0), .val (rInt .i64) (0), .val (rInt .i64) (0)]) (by kernel_rfl) (fun _ => (okint (okint (okint (okint okn))))) rfl (.n rfl) rfl rfl ?_
        intro b243
        refine s_storebs 1 U87 rfl (c1 rfl (c1 rfl (c1 rfl (c1 rfl cells_unit)))) (by rfl) (.n rfl) rfl rfl (.t rfl) (.t rfl) (by rfl) <| s_st (st_freezeb (R := rTask) (a := y240.1) 1 [19] (c1 rfl (c1 rfl (c1 rfl (c1 rfl cells_unit)))) rfl rfl ⟨rfl, trivial⟩) ?_
        refine s_storebs 0 U87 rfl (c1 rfl (c1 rfl (c1 rfl (c1 rfl cells_unit)))) (by rfl) (.n rfl) rfl rfl (.t rfl) (.t rfl) (by rfl) <| nq <| r_seq <| rr <| fa F62_0 fk_Duty_0 (by decide) rfl <| ld U60 rfl <| ln S60 rfl rfl rfl (.t rfl) <| cmc rfl (by decide) .eql <| nq <| ct rfl (fun hq245 => ?_) (fun hq245 => ?_)
        · have ho := cnd1 ho hq245
          refine rr <| mv rfl <| mv rfl <| fa F62_0 fk_Duty_0 (by decide) rfl <| ld U60 rfl ?_
          obtain ⟨x246, hx246, ho⟩ := bnd ho
          refine s_idx S60 hx246 (.n rfl) rfl rfl (.t rfl) (.i (by decide) (by decide)) <| ld U78 rfl ?_
          obtain ⟨y247, hy247, ho⟩ := bnd ho
          refine s_calll (g_ref08_ends_ok hy247) (.v (flat_pair flat_int (flat_pair flat_int (flat_pair flat_int (flat_pair flat_int flat_unit)))) (.v (flat_pair flat_int (flat_pair flat_int (flat_pair flat_int (flat_pair flat_int flat_unit)))) .n)) rfl (.n rfl) rfl rfl rfl .f (.c (.o (.t rfl)) (.c (.o (.t rfl)) (.c (.o (.t rfl)) .n))) ?_
          show SOps ..
          refine mv rfl <| ext rfl rfl <| ext rfl rfl <| s_alloc (zv := .agg [.int .i64 0, .int .i64 0, .int .i64 0, .int .i64 0]) (es := [.val (rInt .i64) (0), .val (rInt .i64) (0), .val (rInt .i64) (0), .val (rInt .i64) (0)]) (by kernel_rfl) (fun _ => (okint (okint (okint (okint okn))))) rfl (.n rfl) rfl rfl ?_
          intro b248
          refine s_alloc (zv := .agg [.int .i64 0, .int .i64 0, .int .i64 0, .int .i64 0]) (es := [.val (rInt .i64) (0), .val (rInt .i64) (0), .val (rInt .i64) (0), .val (rInt .i64) (0)]) (by kernel_rfl) (fun _ => (okint (okint (okint (okint okn))))) rfl (.n rfl) rfl rfl ?_
          intro b250
          refine s_storebs 1 U87 rfl (c1 rfl (c1 rfl (c1 rfl (c1 rfl cells_unit)))) (by rfl) (.n rfl) rfl rfl (.t rfl) (.t rfl) (by rfl) <| s_st (st_freezeb (R := rTask) (a := y247.1) 1 [21] (c1 rfl (c1 rfl (c1 rfl (c1 rfl cells_unit)))) rfl rfl ⟨rfl, trivial⟩) ?_
          refine s_storebs 0 U87 rfl (c1 rfl (c1 rfl (c1 rfl (c1 rfl cells_unit)))) (by rfl) (.n rfl) rfl rfl (.t rfl) (.t rfl) (by rfl) <| s_st (st_freezeb (R := rTask) (a := y247.2) 0 [22] (c1 rfl (c1 rfl (c1 rfl (c1 rfl cells_unit)))) rfl rfl ⟨rfl, trivial⟩) ?_
          refine nq <| r_seq ?_
          refine r_draw [3] (by kernel_rfl) ?_
          refine fa F26_0 fk_Yard_0 (by decide) rfl <| ld U23 rfl <| faw F87_1 (by decide) rfl <| s_loadb 0 (fun _ h => by cases h <;> rfl) (U3).agg rfl (.n rfl) rfl rfl (.t rfl) rfl ?_
          obtain ⟨x252, hx252, ho⟩ := bnd ho
          refine ix S23 hx252 rfl rfl <| ld U29 rfl <| fa F87_0 fk_Task_0 (by decide) rfl <| ld U3 rfl ?_
          obtain ⟨x253, hx253, ho⟩ := bnd ho
          refine ix S29 hx253 rfl rfl <| ld U3 rfl <| sg rfl <| nq <| r_seq <| r_seq ?_
          obtain ⟨c255, hc255, ho⟩ := bnd ho
          refine r_cut (τ := (Bool)) (G := Unit) (fun t => (.normal, fun _ => ([(8, .val (rPtr rWorkRules) (p_3)), (13, .val (rInt .i64) (t106.2.2)), (18, .raw v238), (19, .val (rPtr rTask) (y240.1)), (20, .raw (.ptr b243 0)), (21, .val (rPtr rTask) (y247.1)), (22, .val (rPtr rTask) (y247.2)), (23, .val (rInt .i64) (x253)), (152, .val rBool (t))], [(.ptr b243 0, .box [.val (rInt .i64) (y240.2.1), .val (rInt .i64) (y240.2.2.1), .val (rInt .i64) (y240.2.2.2.1), .val (rInt .i64) (y240.2.2.2.2.1)]), (v238, .row (rInt .i64) (x237))]))) (t := c255) ?_ ?_
          · have ho := hc255
            clear hc255
            refine r_region <| fa F87_2 fk_Task_2 (by decide) rfl <| ld U3 rfl <| faw F87_3 (by decide) rfl <| s_loadb 0 (fun _ h => by cases h <;> rfl) (U3).agg rfl (.n rfl) rfl rfl (.t rfl) rfl <| cm rfl rfl .lss <| mv rfl ?_
            rcases Bool.eq_false_or_eq_true ((decide (y247.1.2.2.1 < y240.2.2.2.2.1))) with hb256 | hb256
            · have ho := cnd1 ho hb256
              refine skg (gf1 hb256) rfl rfl <| skg (gf1 hb256) rfl rfl <| pk1 hb256 rfl .b ?_
              cases ho
              exact s_nil (fun fr h s => And.intro rfl (Exists.intro () (s.pick [0, 1] ⟨rfl, rfl, rfl, rfl, rfl, rfl, rfl, rfl, rfl, trivial⟩ rfl (by decide))))
            · have ho := cnd0 ho hb256
              refine mvg (gf0 hb256) rfl rfl rfl <| s_cmp (.g rfl rfl (gf0 hb256)) rfl rfl (.t rfl) (.i (by decide) (by decide)) .lss <| pk0 hb256 rfl (.t rfl) ?_
              cases ho
              exact s_nil (fun fr h s => And.intro rfl (Exists.intro () (s.pick [0, 1] ⟨rfl, rfl, rfl, rfl, rfl, rfl, rfl, rfl, rfl, trivial⟩ rfl (by decide))))
          · intro _
            show SRun ..
            refine ct rfl (fun hq257 => ?_) (fun hq257 => ?_)
            · have ho := cnd1 ho hq257
              refine r_region <| mv rfl <| s_bs (R := (rInt .i64)) S63 Y68 (.n rfl) rfl rfl (.c (.i (by decide) (by decide)) .n) rfl (by decide) ?_
              obtain ⟨x258, hx258, ho⟩ := bnd ho
              refine s_app 1 S63 Y68 hx258 (.n rfl) rfl rfl rfl rfl rfl (.t rfl) rfl (.t rfl) rfl ?_
              intro v259
              refine sg rfl <| nq <| r_region <| ld U87 rfl <| s_storebs 1 U87 rfl (c1 rfl (c1 rfl (c1 rfl (c1 rfl cells_unit)))) (by rfl) (.n rfl) rfl rfl (.t rfl) (.t rfl) (by rfl) <| nq <| r_seq <| rr <| faw F87_3 (by decide) rfl <| s_loadb 1 (fun _ h => by cases h <;> rfl) (U3).agg rfl (.n rfl) rfl rfl (.t rfl) rfl <| fa F87_2 fk_Task_2 (by decide) rfl <| ld U3 rfl <| ar rfl rfl .sub <| fa F42_4 fk_WorkRules_4 (by decide) rfl ?_
              refine ld U3 rfl <| ar rfl rfl .add <| fa F42_5 fk_WorkRules_5 (by decide) rfl <| ld U3 rfl <| ar rfl rfl .add <| fa F42_1 fk_WorkRules_1 (by decide) rfl <| ld U3 rfl <| cm rfl rfl .gtr <| nq <| ct rfl (fun hq260 => ?_) (fun hq260 => ?_)
              · have ho := cnd1 ho hq260
                refine r_region <| mv rfl <| s_bs (R := (rInt .i64)) S63 Y68 (.n rfl) rfl rfl (.c (.i (by decide) (by decide)) .n) rfl (by decide) ?_
                obtain ⟨x261, hx261, ho⟩ := bnd ho
                refine s_app 0 S63 Y68 hx261 (.n rfl) rfl rfl rfl rfl rfl (.t rfl) rfl (.t rfl) rfl ?_
                intro v262
                refine sg rfl <| nq <| r_seq <| rr <| mv rfl <| fa F42_2 fk_WorkRules_2 (by decide) rfl <| ld U3 rfl <| cm rfl rfl .gtr <| nq <| ct rfl (fun hq263 => ?_) (fun hq263 => ?_)
                · have ho := cnd1 ho hq263
                  refine r_region <| mv rfl <| s_bs (R := (rInt .i64)) S63 Y68 (.n rfl) rfl rfl (.c (.i (by decide) (by decide)) .n) rfl (by decide) ?_
                  obtain ⟨x264, hx264, ho⟩ := bnd ho
                  refine s_app 0 S63 Y68 hx264 (.n rfl) rfl rfl rfl rfl rfl (.t rfl) rfl (.t rfl) rfl ?_
                  intro v265
                  refine sg rfl <| nq <| rr <| mv rfl <| sg rfl <| nq ?_
                  cases ho
                  exact r_ret (ret_of (.inr rfl) (.r 0 rfl rfl .n) (by decide))
                · have ho := cnd0 ho hq263
                  refine kq rfl <| rr <| mv rfl <| sg rfl <| nq ?_
                  cases ho
                  exact r_ret (ret_of (.inr rfl) (.r 0 rfl rfl .n) (by decide))
              · have ho := cnd0 ho hq260
                refine kq rfl <| r_seq <| rr <| mv rfl <| fa F42_2 fk_WorkRules_2 (by decide) rfl <| ld U3 rfl <| cm rfl rfl .gtr <| nq <| ct rfl (fun hq266 => ?_) (fun hq266 => ?_)
                · have ho := cnd1 ho hq266
                  refine r_region <| mv rfl <| s_bs (R := (rInt .i64)) S63 Y68 (.n rfl) rfl rfl (.c (.i (by decide) (by decide)) .n) rfl (by decide) ?_
                  obtain ⟨x267, hx267, ho⟩ := bnd ho
                  refine s_app 0 S63 Y68 hx267 (.n rfl) rfl rfl rfl rfl rfl (.t rfl) rfl (.t rfl) rfl ?_
                  intro v268
                  refine sg rfl <| nq <| rr <| mv rfl <| sg rfl <| nq ?_
                  cases ho
                  exact r_ret (ret_of (.inr rfl) (.r 0 rfl rfl .n) (by decide))
                · have ho := cnd0 ho hq266
                  refine kq rfl <| rr <| mv rfl <| sg rfl <| nq ?_
                  cases ho
                  exact r_ret (ret_of (.inr rfl) (.r 0 rfl rfl .n) (by decide))
            · have ho := cnd0 ho hq257
              refine rr <| fa F87_2 fk_Task_2 (by decide) rfl <| ld U3 rfl <| faw F87_3 (by decide) rfl <| s_loadb 0 (fun _ h => by cases h <;> rfl) (U3).agg rfl (.n rfl) rfl rfl (.t rfl) rfl <| ar rfl rfl .sub <| fa F42_3 fk_WorkRules_3 (by decide) rfl <| ld U3 rfl <| mv rfl <| ar rfl rfl .add <| cm rfl rfl .lss <| nq <| ct rfl (fun hq269 => ?_) (fun hq269 => ?_)
              · have ho := cnd1 ho hq269
                refine r_region <| mv rfl <| s_bs (R := (rInt .i64)) S63 Y68 (.n rfl) rfl rfl (.c (.i (by decide) (by decide)) .n) rfl (by decide) ?_
                obtain ⟨x270, hx270, ho⟩ := bnd ho
                refine s_app 1 S63 Y68 hx270 (.n rfl) rfl rfl rfl rfl rfl (.t rfl) rfl (.t rfl) rfl ?_
                intro v271
                refine sg rfl <| nq <| r_region <| ld U87 rfl <| s_storebs 1 U87 rfl (c1 rfl (c1 rfl (c1 rfl (c1 rfl cells_unit)))) (by rfl) (.n rfl) rfl rfl (.t rfl) (.t rfl) (by rfl) <| nq <| r_seq <| rr <| faw F87_3 (by decide) rfl <| s_loadb 1 (fun _ h => by cases h <;> rfl) (U3).agg rfl (.n rfl) rfl rfl (.t rfl) rfl <| fa F87_2 fk_Task_2 (by decide) rfl <| ld U3 rfl <| ar rfl rfl .sub <| fa F42_4 fk_WorkRules_4 (by decide) rfl ?_
                refine ld U3 rfl <| ar rfl rfl .add <| fa F42_5 fk_WorkRules_5 (by decide) rfl <| ld U3 rfl <| ar rfl rfl .add <| fa F42_1 fk_WorkRules_1 (by decide) rfl <| ld U3 rfl <| cm rfl rfl .gtr <| nq <| ct rfl (fun hq272 => ?_) (fun hq272 => ?_)
                · have ho := cnd1 ho hq272
                  refine r_region <| mv rfl <| s_bs (R := (rInt .i64)) S63 Y68 (.n rfl) rfl rfl (.c (.i (by decide) (by decide)) .n) rfl (by decide) ?_
                  obtain ⟨x273, hx273, ho⟩ := bnd ho
                  refine s_app 0 S63 Y68 hx273 (.n rfl) rfl rfl rfl rfl rfl (.t rfl) rfl (.t rfl) rfl ?_
                  intro v274
                  refine sg rfl <| nq <| r_seq <| rr <| mv rfl <| fa F42_2 fk_WorkRules_2 (by decide) rfl <| ld U3 rfl <| cm rfl rfl .gtr <| nq <| ct rfl (fun hq275 => ?_) (fun hq275 => ?_)
                  · have ho := cnd1 ho hq275
                    refine r_region <| mv rfl <| s_bs (R := (rInt .i64)) S63 Y68 (.n rfl) rfl rfl (.c (.i (by decide) (by decide)) .n) rfl (by decide) ?_
                    obtain ⟨x276, hx276, ho⟩ := bnd ho
                    refine s_app 0 S63 Y68 hx276 (.n rfl) rfl rfl rfl rfl rfl (.t rfl) rfl (.t rfl) rfl ?_
                    intro v277
                    refine sg rfl <| nq <| rr <| mv rfl <| sg rfl <| nq ?_
                    cases ho
                    exact r_ret (ret_of (.inr rfl) (.r 0 rfl rfl .n) (by decide))
                  · have ho := cnd0 ho hq275
                    refine kq rfl <| rr <| mv rfl <| sg rfl <| nq ?_
                    cases ho
                    exact r_ret (ret_of (.inr rfl) (.r 0 rfl rfl .n) (by decide))
                · have ho := cnd0 ho hq272
                  refine kq rfl <| r_seq <| rr <| mv rfl <| fa F42_2 fk_WorkRules_2 (by decide) rfl <| ld U3 rfl <| cm rfl rfl .gtr <| nq <| ct rfl (fun hq278 => ?_) (fun hq278 => ?_)
                  · have ho := cnd1 ho hq278
                    refine r_region <| mv rfl <| s_bs (R := (rInt .i64)) S63 Y68 (.n rfl) rfl rfl (.c (.i (by decide) (by decide)) .n) rfl (by decide) ?_
                    obtain ⟨x279, hx279, ho⟩ := bnd ho
                    refine s_app 0 S63 Y68 hx279 (.n rfl) rfl rfl rfl rfl rfl (.t rfl) rfl (.t rfl) rfl ?_
                    intro v280
                    refine sg rfl <| nq <| rr <| mv rfl <| sg rfl <| nq ?_
                    cases ho
                    exact r_ret (ret_of (.inr rfl) (.r 0 rfl rfl .n) (by decide))
                  · have ho := cnd0 ho hq278
                    refine kq rfl <| rr <| mv rfl <| sg rfl <| nq ?_
                    cases ho
                    exact r_ret (ret_of (.inr rfl) (.r 0 rfl rfl .n) (by decide))
              · have ho := cnd0 ho hq269
                refine kq rfl <| r_region <| ld U87 rfl <| s_storebs 0 U87 rfl (c1 rfl (c1 rfl (c1 rfl (c1 rfl cells_unit)))) (by rfl) (.n rfl) rfl rfl (.t rfl) (.t rfl) (by rfl) <| nq <| r_seq <| rr <| faw F87_3 (by decide) rfl <| s_loadb 0 (fun _ h => by cases h <;> rfl) (U3).agg rfl (.n rfl) rfl rfl (.t rfl) rfl <| fa F87_2 fk_Task_2 (by decide) rfl <| ld U3 rfl <| ar rfl rfl .sub <| fa F42_4 fk_WorkRules_4 (by decide) rfl ?_
                refine ld U3 rfl <| ar rfl rfl .add <| fa F42_5 fk_WorkRules_5 (by decide) rfl <| ld U3 rfl <| ar rfl rfl .add <| fa F42_1 fk_WorkRules_1 (by decide) rfl <| ld U3 rfl <| cm rfl rfl .gtr <| nq <| ct rfl (fun hq281 => ?_) (fun hq281 => ?_)
                · have ho := cnd1 ho hq281
                  refine r_region <| mv rfl <| s_bs (R := (rInt .i64)) S63 Y68 (.n rfl) rfl rfl (.c (.i (by decide) (by decide)) .n) rfl (by decide) ?_
                  obtain ⟨x282, hx282, ho⟩ := bnd ho
                  refine s_app 1 S63 Y68 hx282 (.n rfl) rfl rfl rfl rfl rfl (.t rfl) rfl (.t rfl) rfl ?_
                  intro v283
                  refine sg rfl <| nq <| r_seq <| rr <| mv rfl <| fa F42_2 fk_WorkRules_2 (by decide) rfl <| ld U3 rfl <| cm rfl rfl .gtr <| nq <| ct rfl (fun hq284 => ?_) (fun hq284 => ?_)
                  · have ho := cnd1 ho hq284
                    refine r_region <| mv rfl <| s_bs (R := (rInt .i64)) S63 Y68 (.n rfl) rfl rfl (.c (.i (by decide) (by decide)) .n) rfl (by decide) ?_
                    obtain ⟨x285, hx285, ho⟩ := bnd ho
                    refine s_app 0 S63 Y68 hx285 (.n rfl) rfl rfl rfl rfl rfl (.t rfl) rfl (.t rfl) rfl ?_
                    intro v286
                    refine sg rfl <| nq <| rr <| mv rfl <| sg rfl <| nq ?_
                    cases ho
                    exact r_ret (ret_of (.inr rfl) (.r 0 rfl rfl .n) (by decide))
                  · have ho := cnd0 ho hq284
                    refine kq rfl <| rr <| mv rfl <| sg rfl <| nq ?_
                    cases ho
                    exact r_ret (ret_of (.inr rfl) (.r 0 rfl rfl .n) (by decide))
                · have ho := cnd0 ho hq281
                  refine kq rfl <| r_seq <| rr <| mv rfl <| fa F42_2 fk_WorkRules_2 (by decide) rfl <| ld U3 rfl <| cm rfl rfl .gtr <| nq <| ct rfl (fun hq287 => ?_) (fun hq287 => ?_)
                  · have ho := cnd1 ho hq287
                    refine r_region <| mv rfl <| s_bs (R := (rInt .i64)) S63 Y68 (.n rfl) rfl rfl (.c (.i (by decide) (by decide)) .n) rfl (by decide) ?_
                    obtain ⟨x288, hx288, ho⟩ := bnd ho
                    refine s_app 1 S63 Y68 hx288 (.n rfl) rfl rfl rfl rfl rfl (.t rfl) rfl (.t rfl) rfl ?_
                    intro v289
                    refine sg rfl <| nq <| rr <| mv rfl <| sg rfl <| nq ?_
                    cases ho
                    exact r_ret (ret_of (.inr rfl) (.r 0 rfl rfl .n) (by decide))
                  · have ho := cnd0 ho hq287
                    refine kq rfl <| rr <| mv rfl <| sg rfl <| nq ?_
                    cases ho
                    exact r_ret (ret_of (.inr rfl) (.r 1 rfl rfl .n) (by decide))
        · have ho := cnd0 ho hq245
          refine kq rfl <| r_seq <| rr <| faw F87_3 (by decide) rfl <| s_loadb 0 (fun _ h => by cases h <;> rfl) (U3).agg rfl (.n rfl) rfl rfl (.t rfl) rfl <| fa F87_2 fk_Task_2 (by decide) rfl <| ld U3 rfl <| ar rfl rfl .sub <| fa F42_4 fk_WorkRules_4 (by decide) rfl <| ld U3 rfl <| ar rfl rfl .add <| fa F42_5 fk_WorkRules_5 (by decide) rfl <| ld U3 rfl <| ar rfl rfl .add <| fa F42_1 fk_WorkRules_1 (by decide) rfl ?_
          refine ld U3 rfl <| cm rfl rfl .gtr <| nq <| ct rfl (fun hq290 => ?_) (fun hq290 => ?_)
          · have ho := cnd1 ho hq290
            refine r_region <| mv rfl <| s_bs (R := (rInt .i64)) S63 Y68 (.n rfl) rfl rfl (.c (.i (by decide) (by decide)) .n) rfl (by decide) ?_
            obtain ⟨x291, hx291, ho⟩ := bnd ho
            refine s_app 1 S63 Y68 hx291 (.n rfl) rfl rfl rfl rfl rfl (.t rfl) rfl (.t rfl) rfl ?_
            intro v292
            refine sg rfl <| nq <| r_seq <| rr <| mv rfl <| fa F42_2 fk_WorkRules_2 (by decide) rfl <| ld U3 rfl <| cm rfl rfl .gtr <| nq <| ct rfl (fun hq293 => ?_) (fun hq293 => ?_)
            · have ho := cnd1 ho hq293
              refine r_region <| mv rfl <| s_bs (R := (rInt .i64)) S63 Y68 (.n rfl) rfl rfl (.c (.i (by decide) (by decide)) .n) rfl (by decide) ?_
              obtain ⟨x294, hx294, ho⟩ := bnd ho
              refine s_app 0 S63 Y68 hx294 (.n rfl) rfl rfl rfl rfl rfl (.t rfl) rfl (.t rfl) rfl ?_
              intro v295
              refine sg rfl <| nq <| rr <| mv rfl <| sg rfl <| nq ?_
              cases ho
              exact r_ret (ret_of (.inr rfl) (.r 0 rfl rfl .n) (by decide))
            · have ho := cnd0 ho hq293
              refine kq rfl <| rr <| mv rfl <| sg rfl <| nq ?_
              cases ho
              exact r_ret (ret_of (.inr rfl) (.r 0 rfl rfl .n) (by decide))
          · have ho := cnd0 ho hq290
            refine kq rfl <| r_seq <| rr <| mv rfl <| fa F42_2 fk_WorkRules_2 (by decide) rfl <| ld U3 rfl <| cm rfl rfl .gtr <| nq <| ct rfl (fun hq296 => ?_) (fun hq296 => ?_)
            · have ho := cnd1 ho hq296
              refine r_region <| mv rfl <| s_bs (R := (rInt .i64)) S63 Y68 (.n rfl) rfl rfl (.c (.i (by decide) (by decide)) .n) rfl (by decide) ?_
              obtain ⟨x297, hx297, ho⟩ := bnd ho
              refine s_app 1 S63 Y68 hx297 (.n rfl) rfl rfl rfl rfl rfl (.t rfl) rfl (.t rfl) rfl ?_
              intro v298
              refine sg rfl <| nq <| rr <| mv rfl <| sg rfl <| nq ?_
              cases ho
              exact r_ret (ret_of (.inr rfl) (.r 0 rfl rfl .n) (by decide))
            · have ho := cnd0 ho hq296
              refine kq rfl <| rr <| mv rfl <| sg rfl <| nq ?_
              cases ho
              exact r_ret (ret_of (.inr rfl) (.r 1 rfl rfl .n) (by decide))
      · have ho := cnd0 ho hq236
        refine kq rfl <| rr <| mv rfl <| mv rfl <| fa F62_0 fk_Duty_0 (by decide) rfl <| ld U60 rfl ?_
        obtain ⟨x299, hx299, ho⟩ := bnd ho
        refine s_idx S60 hx299 (.n rfl) rfl rfl (.t rfl) (.i (by decide) (by decide)) <| ld U78 rfl ?_
        obtain ⟨y300, hy300, ho⟩ := bnd ho
        refine s_calll (g_ref08_ends_ok hy300) (.v (flat_pair flat_int (flat_pair flat_int (flat_pair flat_int (flat_pair flat_int flat_unit)))) (.v (flat_pair flat_int (flat_pair flat_int (flat_pair flat_int (flat_pair flat_int flat_unit)))) .n)) rfl (.n rfl) rfl rfl rfl .f (.c (.o (.t rfl)) (.c (.o (.t rfl)) (.c (.o (.t rfl)) .n))) ?_
        show SOps ..
        refine mv rfl <| ext rfl rfl <| ext rfl rfl <| s_alloc (zv := .agg [.int .i64 0, .int .i64 0, .int .i64 0, .int .i64 0]) (es := [.val (rInt .i64) (0), .val (rInt .i64) (0), .val (rInt .i64) (0), .val (rInt .i64) (0)]) (by kernel_rfl) (fun _ => (okint (okint (okint (okint okn))))) rfl (.n rfl) rfl rfl ?_
        intro b301
        refine s_alloc (zv := .agg [.int .i64 0, .int .i64 0, .int .i64 0, .int .i64 0]) (es := [.val (rInt .i64) (0), .val (rInt .i64) (0), .val (rInt .i64) (0), .val (rInt .i64) (0)]) (by kernel_rfl) (fun _ => (okint (okint (okint (okint okn))))) rfl (.n rfl) rfl rfl ?_
        intro b303
        refine s_storebs 1 U87 rfl (c1 rfl (c1 rfl (c1 rfl (c1 rfl cells_unit)))) (by rfl) (.n rfl) rfl rfl (.t rfl) (.t rfl) (by rfl) <| s_st (st_freezeb (R := rTask) (a := y300.1) 1 [19] (c1 rfl (c1 rfl (c1 rfl (c1 rfl cells_unit)))) rfl rfl ⟨rfl, trivial⟩) ?_
        refine s_storebs 0 U87 rfl (c1 rfl (c1 rfl (c1 rfl (c1 rfl cells_unit)))) (by rfl) (.n rfl) rfl rfl (.t rfl) (.t rfl) (by rfl) <| nq <| r_seq <| rr <| fa F62_0 fk_Duty_0 (by decide) rfl <| ld U60 rfl <| ln S60 rfl rfl rfl (.t rfl) <| cmc rfl (by decide) .eql <| nq <| ct rfl (fun hq305 => ?_) (fun hq305 => ?_)
        · have ho := cnd1 ho hq305
          refine rr <| mv rfl <| mv rfl <| fa F62_0 fk_Duty_0 (by decide) rfl <| ld U60 rfl ?_
          obtain ⟨x306, hx306, ho⟩ := bnd ho
          refine s_idx S60 hx306 (.n rfl) rfl rfl (.t rfl) (.i (by decide) (by decide)) <| ld U78 rfl ?_
          obtain ⟨y307, hy307, ho⟩ := bnd ho
          refine s_calll (g_ref08_ends_ok hy307) (.v (flat_pair flat_int (flat_pair flat_int (flat_pair flat_int (flat_pair flat_int flat_unit)))) (.v (flat_pair flat_int (flat_pair flat_int (flat_pair flat_int (flat_pair flat_int flat_unit)))) .n)) rfl (.n rfl) rfl rfl rfl .f (.c (.o (.t rfl)) (.c (.o (.t rfl)) (.c (.o (.t rfl)) .n))) ?_
          show SOps ..
          refine mv rfl <| ext rfl rfl <| ext rfl rfl <| s_alloc (zv := .agg [.int .i64 0, .int .i64 0, .int .i64 0, .int .i64 0]) (es := [.val (rInt .i64) (0), .val (rInt .i64) (0), .val (rInt .i64) (0), .val (rInt .i64) (0)]) (by kernel_rfl) (fun _ => (okint (okint (okint (okint okn))))) rfl (.n rfl) rfl rfl ?_
          intro b308
          refine s_alloc (zv := .agg [.int .i64 0, .int .i64 0, .int .i64 0, .int .i64 0]) (es := [.val (rInt .i64) (0), .val (rInt .i64) (0), .val (rInt .i64) (0), .val (rInt .i64) (0)]) (by kernel_rfl) (fun _ => (okint (okint (okint (okint okn))))) rfl (.n rfl) rfl rfl ?_
          intro b310
          refine s_storebs 1 U87 rfl (c1 rfl (c1 rfl (c1 rfl (c1 rfl cells_unit)))) (by rfl) (.n rfl) rfl rfl (.t rfl) (.t rfl) (by rfl) <| s_st (st_freezeb (R := rTask) (a := y307.1) 1 [21] (c1 rfl (c1 rfl (c1 rfl (c1 rfl cells_unit)))) rfl rfl ⟨rfl, trivial⟩) ?_
          refine s_storebs 0 U87 rfl (c1 rfl (c1 rfl (c1 rfl (c1 rfl cells_unit)))) (by rfl) (.n rfl) rfl rfl (.t rfl) (.t rfl) (by rfl) <| s_st (st_freezeb (R := rTask) (a := y307.2) 0 [22] (c1 rfl (c1 rfl (c1 rfl (c1 rfl cells_unit)))) rfl rfl ⟨rfl, trivial⟩) ?_
          refine nq <| r_seq ?_
          refine r_draw [3] (by kernel_rfl) ?_
          refine fa F26_0 fk_Yard_0 (by decide) rfl <| ld U23 rfl <| faw F87_1 (by decide) rfl <| s_loadb 0 (fun _ h => by cases h <;> rfl) (U3).agg rfl (.n rfl) rfl rfl (.t rfl) rfl ?_
          obtain ⟨x312, hx312, ho⟩ := bnd ho
          refine ix S23 hx312 rfl rfl <| ld U29 rfl <| fa F87_0 fk_Task_0 (by decide) rfl <| ld U3 rfl ?_
          obtain ⟨x313, hx313, ho⟩ := bnd ho
          refine ix S29 hx313 rfl rfl <| ld U3 rfl <| sg rfl <| nq <| r_seq <| r_seq ?_
          obtain ⟨c315, hc315, ho⟩ := bnd ho
          refine r_cut (τ := (Bool)) (G := Unit) (fun t => (.normal, fun _ => ([(8, .val (rPtr rWorkRules) (p_3)), (13, .val (rInt .i64) (t106.2.2)), (18, .raw .nilslice), (19, .val (rPtr rTask) (y300.1)), (20, .raw (.ptr b303 0)), (21, .val (rPtr rTask) (y307.1)), (22, .val (rPtr rTask) (y307.2)), (23, .val (rInt .i64) (x313)), (152, .val rBool (t))], [(.ptr b303 0, .box [.val (rInt .i64) (y300.2.1), .val (rInt .i64) (y300.2.2.1), .val (rInt .i64) (y300.2.2.2.1), .val (rInt .i64) (y300.2.2.2.2.1)]), (.nilslice, .row (rInt .i64) ([]))]))) (t := c315) ?_ ?_
          · have ho := hc315
            clear hc315
            refine r_region <| fa F87_2 fk_Task_2 (by decide) rfl <| ld U3 rfl <| faw F87_3 (by decide) rfl <| s_loadb 0 (fun _ h => by cases h <;> rfl) (U3).agg rfl (.n rfl) rfl rfl (.t rfl) rfl <| cm rfl rfl .lss <| mv rfl ?_
            rcases Bool.eq_false_or_eq_true ((decide (y307.1.2.2.1 < y300.2.2.2.2.1))) with hb316 | hb316
            · have ho := cnd1 ho hb316
              refine skg (gf1 hb316) rfl rfl <| skg (gf1 hb316) rfl rfl <| pk1 hb316 rfl .b ?_
              cases ho
              exact s_nil (fun fr h s => And.intro rfl (Exists.intro () (s.pick [0, 1] ⟨rfl, rfl, rfl, rfl, rfl, rfl, rfl, rfl, rfl, trivial⟩ rfl (by decide))))
            · have ho := cnd0 ho hb316
              refine mvg (gf0 hb316) rfl rfl rfl <| s_cmp (.g rfl rfl (gf0 hb316)) rfl rfl (.t rfl) (.i (by decide) (by decide)) .lss <| pk0 hb316 rfl (.t rfl) ?_
              cases ho
              exact s_nil (fun fr h s => And.intro rfl (Exists.intro () (s.pick [0, 1] ⟨rfl, rfl, rfl, rfl, rfl, rfl, rfl, rfl, rfl, trivial⟩ rfl (by decide))))
          · intro _
            show SRun ..
            refine ct rfl (fun hq317 => ?_) (fun hq317 => ?_)
            · have ho := cnd1 ho hq317
              refine r_region <| mv rfl <| s_bs (R := (rInt .i64)) S63 Y68 (.n rfl) rfl rfl (.c (.i (by decide) (by decide)) .n) rfl (by decide) ?_
              obtain ⟨x318, hx318, ho⟩ := bnd ho
              refine s_app 1 S63 Y68 hx318 (.n rfl) rfl rfl rfl rfl rfl (.t rfl) rfl (.t rfl) rfl ?_
              intro v319
              refine sg rfl <| nq <| r_region <| ld U87 rfl <| s_storebs 1 U87 rfl (c1 rfl (c1 rfl (c1 rfl (c1 rfl cells_unit)))) (by rfl) (.n rfl) rfl rfl (.t rfl) (.t rfl) (by rfl) <| nq <| r_seq <| rr <| faw F87_3 (by decide) rfl <| s_loadb 1 (fun _ h => by cases h <;> rfl) (U3).agg rfl (.n rfl) rfl rfl (.t rfl) rfl <| fa F87_2 fk_Task_2 (by decide) rfl <| ld U3 rfl <| ar rfl rfl .sub <| fa F42_4 fk_WorkRules_4 (by decide) rfl ?_
              refine ld U3 rfl <| ar rfl rfl .add <| fa F42_5 fk_WorkRules_5 (by decide) rfl <| ld U3 rfl <| ar rfl rfl .add <| fa F42_1 fk_WorkRules_1 (by decide) rfl <| ld U3 rfl <| cm rfl rfl .gtr <| nq <| ct rfl (fun hq320 => ?_) (fun hq320 => ?_)
              · have ho := cnd1 ho hq320
                refine r_region <| mv rfl <| s_bs (R := (rInt .i64)) S63 Y68 (.n rfl) rfl rfl (.c (.i (by decide) (by decide)) .n) rfl (by decide) ?_
                obtain ⟨x321, hx321, ho⟩ := bnd ho
                refine s_app 0 S63 Y68 hx321 (.n rfl) rfl rfl rfl rfl rfl (.t rfl) rfl (.t rfl) rfl ?_
                intro v322
                refine sg rfl <| nq <| r_seq <| rr <| mv rfl <| fa F42_2 fk_WorkRules_2 (by decide) rfl <| ld U3 rfl <| cm rfl rfl .gtr <| nq <| ct rfl (fun hq323 => ?_) (fun hq323 => ?_)
                · have ho := cnd1 ho hq323
                  refine r_region <| mv rfl <| s_bs (R := (rInt .i64)) S63 Y68 (.n rfl) rfl rfl (.c (.i (by decide) (by decide)) .n) rfl (by decide) ?_
                  obtain ⟨x324, hx324, ho⟩ := bnd ho
                  refine s_app 0 S63 Y68 hx324 (.n rfl) rfl rfl rfl rfl rfl (.t rfl) rfl (.t rfl) rfl ?_
                  intro v325
                  refine sg rfl <| nq <| rr <| mv rfl <| sg rfl <| nq ?_
                  cases ho
                  exact r_ret (ret_of (.inr rfl) (.r 0 rfl rfl .n) (by decide))
                · have ho := cnd0 ho hq323
                  refine kq rfl <| rr <| mv rfl <| sg rfl <| nq ?_
                  cases ho
                  exact r_ret (ret_of (.inr rfl) (.r 0 rfl rfl .n) (by decide))
              · have ho := cnd0 ho hq320
                refine kq rfl <| r_seq <| rr <| mv rfl <| fa F42_2 fk_WorkRules_2 (by decide) rfl <| ld U3 rfl <| cm rfl rfl .gtr <| nq <| ct rfl (fun hq326 => ?_) (fun hq326 => ?_)
                · have ho := cnd1 ho hq326
                  refine r_region <| mv rfl <| s_bs (R := (rInt .i64)) S63 Y68 (.n rfl) rfl rfl (.c (.i (by decide) (by decide)) .n) rfl (by decide) ?_
                  obtain ⟨x327, hx327, ho⟩ := bnd ho
                  refine s_app 0 S63 Y68 hx327 (.n rfl) rfl rfl rfl rfl rfl (.t rfl) rfl (.t rfl) rfl ?_
                  intro v328
                  refine sg rfl <| nq <| rr <| mv rfl <| sg rfl <| nq ?_
                  cases ho
                  exact r_ret (ret_of (.inr rfl) (.r 0 rfl rfl .n) (by decide))
                · have ho := cnd0 ho hq326
                  refine kq rfl <| rr <| mv rfl <| sg rfl <| nq ?_
                  cases ho
                  exact r_ret (ret_of (.inr rfl) (.r 0 rfl rfl .n) (by decide))
            · have ho := cnd0 ho hq317
              refine rr <| fa F87_2 fk_Task_2 (by decide) rfl <| ld U3 rfl <| faw F87_3 (by decide) rfl <| s_loadb 0 (fun _ h => by cases h <;> rfl) (U3).agg rfl (.n rfl) rfl rfl (.t rfl) rfl <| ar rfl rfl .sub <| fa F42_3 fk_WorkRules_3 (by decide) rfl <| ld U3 rfl <| mv rfl <| ar rfl rfl .add <| cm rfl rfl .lss <| nq <| ct rfl (fun hq329 => ?_) (fun hq329 => ?_)
              · have ho := cnd1 ho hq329
                refine r_region <| mv rfl <| s_bs (R := (rInt .i64)) S63 Y68 (.n rfl) rfl rfl (.c (.i (by decide) (by decide)) .n) rfl (by decide) ?_
                obtain ⟨x330, hx330, ho⟩ := bnd ho
                refine s_app 1 S63 Y68 hx330 (.n rfl) rfl rfl rfl rfl rfl (.t rfl) rfl (.t rfl) rfl ?_
                intro v331
                refine sg rfl <| nq <| r_region <| ld U87 rfl <| s_storebs 1 U87 rfl (c1 rfl (c1 rfl (c1 rfl (c1 rfl cells_unit)))) (by rfl) (.n rfl) rfl rfl (.t rfl) (.t rfl) (by rfl) <| nq <| r_seq <| rr <| faw F87_3 (by decide) rfl <| s_loadb 1 (fun _ h => by cases h <;> rfl) (U3).agg rfl (.n rfl) rfl rfl (.t rfl) rfl <| fa F87_2 fk_Task_2 (by decide) rfl <| ld U3 rfl <| ar rfl rfl .sub <| fa F42_4 fk_WorkRules_4 (by decide) rfl ?_
                refine ld U3 rfl <| ar rfl rfl .add <| fa F42_5 fk_WorkRules_5 (by decide) rfl <| ld U3 rfl <| ar rfl rfl .add <| fa F42_1 fk_WorkRules_1 (by decide) rfl <| ld U3 rfl <| cm rfl rfl .gtr <| nq <| ct rfl (fun hq332 => ?_) (fun hq332 => ?_)
                · have ho := cnd1 ho hq332
                  refine r_region <| mv rfl <| s_bs (R := (rInt .i64)) S63 Y68 (.n rfl) rfl rfl (.c (.i (by decide) (by decide)) .n) rfl (by decide) ?_
                  obtain ⟨x333, hx333, ho⟩ := bnd ho
                  refine s_app 0 S63 Y68 hx333 (.n rfl) rfl rfl rfl rfl rfl (.t rfl) rfl (.t rfl) rfl ?_
                  intro v334
                  refine sg rfl <| nq <| r_seq <| rr <| mv rfl <| fa F42_2 fk_WorkRules_2 (by decide) rfl <| ld U3 rfl <| cm rfl rfl .gtr <| nq <| ct rfl (fun hq335 => ?_) (fun hq335 => ?_)
                  · have ho := cnd1 ho hq335
                    refine r_region <| mv rfl <| s_bs (R := (rInt .i64)) S63 Y68 (.n rfl) rfl rfl (.c (.i (by decide) (by decide)) .n) rfl (by decide) ?_
                    obtain ⟨x336, hx336, ho⟩ := bnd ho
                    refine s_app 0 S63 Y68 hx336 (.n rfl) rfl rfl rfl rfl rfl (.t rfl) rfl (.t rfl) rfl ?_
                    intro v337
                    refine sg rfl <| nq <| rr <| mv rfl <| sg rfl <| nq ?_
                    cases ho
                    exact r_ret (ret_of (.inr rfl) (.r 0 rfl rfl .n) (by decide))
                  · have ho := cnd0 ho hq335
                    refine kq rfl <| rr <| mv rfl <| sg rfl <| nq ?_
                    cases ho
                    exact r_ret (ret_of (.inr rfl) (.r 0 rfl rfl .n) (by decide))
                · have ho := cnd0 ho hq332
                  refine kq rfl <| r_seq <| rr <| mv rfl <| fa F42_2 fk_WorkRules_2 (by decide) rfl <| ld U3 rfl <| cm rfl rfl .gtr <| nq <| ct rfl (fun hq338 => ?_) (fun hq338 => ?_)
                  · have ho := cnd1 ho hq338
                    refine r_region <| mv rfl <| s_bs (R := (rInt .i64)) S63 Y68 (.n rfl) rfl rfl (.c (.i (by decide) (by decide)) .n) rfl (by decide) ?_
                    obtain ⟨x339, hx339, ho⟩ := bnd ho
                    refine s_app 0 S63 Y68 hx339 (.n rfl) rfl rfl rfl rfl rfl (.t rfl) rfl (.t rfl) rfl ?_
                    intro v340
                    refine sg rfl <| nq <| rr <| mv rfl <| sg rfl <| nq ?_
                    cases ho
                    exact r_ret (ret_of (.inr rfl) (.r 0 rfl rfl .n) (by decide))
                  · have ho := cnd0 ho hq338
                    refine kq rfl <| rr <| mv rfl <| sg rfl <| nq ?_
                    cases ho
                    exact r_ret (ret_of (.inr rfl) (.r 0 rfl rfl .n) (by decide))
              · have ho := cnd0 ho hq329
                refine kq rfl <| r_region <| ld U87 rfl <| s_storebs 0 U87 rfl (c1 rfl (c1 rfl (c1 rfl (c1 rfl cells_unit)))) (by rfl) (.n rfl) rfl rfl (.t rfl) (.t rfl) (by rfl) <| nq <| r_seq <| rr <| faw F87_3 (by decide) rfl <| s_loadb 0 (fun _ h => by cases h <;> rfl) (U3).agg rfl (.n rfl) rfl rfl (.t rfl) rfl <| fa F87_2 fk_Task_2 (by decide) rfl <| ld U3 rfl <| ar rfl rfl .sub <| fa F42_4 fk_WorkRules_4 (by decide) rfl ?_
                refine ld U3 rfl <| ar rfl rfl .add <| fa F42_5 fk_WorkRules_5 (by decide) rfl <| ld U3 rfl <| ar rfl rfl .add <| fa F42_1 fk_WorkRules_1 (by decide) rfl <| ld U3 rfl <| cm rfl rfl .gtr <| nq <| ct rfl (fun hq341 => ?_) (fun hq341 => ?_)
                · have ho := cnd1 ho hq341
                  refine r_region <| mv rfl <| s_bs (R := (rInt .i64)) S63 Y68 (.n rfl) rfl rfl (.c (.i (by decide) (by decide)) .n) rfl (by decide) ?_
                  obtain ⟨x342, hx342, ho⟩ := bnd ho
                  refine s_app 1 S63 Y68 hx342 (.n rfl) rfl rfl rfl rfl rfl (.t rfl) rfl (.t rfl) rfl ?_
                  intro v343
                  refine sg rfl <| nq <| r_seq <| rr <| mv rfl <| fa F42_2 fk_WorkRules_2 (by decide) rfl <| ld U3 rfl <| cm rfl rfl .gtr <| nq <| ct rfl (fun hq344 => ?_) (fun hq344 => ?_)
                  · have ho := cnd1 ho hq344
                    refine r_region <| mv rfl <| s_bs (R := (rInt .i64)) S63 Y68 (.n rfl) rfl rfl (.c (.i (by decide) (by decide)) .n) rfl (by decide) ?_
                    obtain ⟨x345, hx345, ho⟩ := bnd ho
                    refine s_app 0 S63 Y68 hx345 (.n rfl) rfl rfl rfl rfl rfl (.t rfl) rfl (.t rfl) rfl ?_
                    intro v346
                    refine sg rfl <| nq <| rr <| mv rfl <| sg rfl <| nq ?_
                    cases ho
                    exact r_ret (ret_of (.inr rfl) (.r 0 rfl rfl .n) (by decide))
                  · have ho := cnd0 ho hq344
                    refine kq rfl <| rr <| mv rfl <| sg rfl <| nq ?_
                    cases ho
                    exact r_ret (ret_of (.inr rfl) (.r 0 rfl rfl .n) (by decide))
                · have ho := cnd0 ho hq341
                  refine kq rfl <| r_seq <| rr <| mv rfl <| fa F42_2 fk_WorkRules_2 (by decide) rfl <| ld U3 rfl <| cm rfl rfl .gtr <| nq <| ct rfl (fun hq347 => ?_) (fun hq347 => ?_)
                  · have ho := cnd1 ho hq347
                    refine r_region <| mv rfl <| s_bs (R := (rInt .i64)) S63 Y68 (.n rfl) rfl rfl (.c (.i (by decide) (by decide)) .n) rfl (by decide) ?_
                    obtain ⟨x348, hx348, ho⟩ := bnd ho
                    refine s_app 1 S63 Y68 hx348 (.n rfl) rfl rfl rfl rfl rfl (.t rfl) rfl (.t rfl) rfl ?_
                    intro v349
                    refine sg rfl <| nq <| rr <| mv rfl <| sg rfl <| nq ?_
                    cases ho
                    exact r_ret (ret_of (.inr rfl) (.r 0 rfl rfl .n) (by decide))
                  · have ho := cnd0 ho hq347
                    refine kq rfl <| rr <| mv rfl <| sg rfl <| nq ?_
                    cases ho
                    exact r_ret (ret_of (.inr rfl) (.r 1 rfl rfl .n) (by decide))
        · have ho := cnd0 ho hq305
          refine kq rfl <| r_seq <| rr <| faw F87_3 (by decide) rfl <| s_loadb 0 (fun _ h => by cases h <;> rfl) (U3).agg rfl (.n rfl) rfl rfl (.t rfl) rfl <| fa F87_2 fk_Task_2 (by decide) rfl <| ld U3 rfl <| ar rfl rfl .sub <| fa F42_4 fk_WorkRules_4 (by decide) rfl <| ld U3 rfl <| ar rfl rfl .add <| fa F42_5 fk_WorkRules_5 (by decide) rfl <| ld U3 rfl <| ar rfl rfl .add <| fa F42_1 fk_WorkRules_1 (by decide) rfl ?_
          refine ld U3 rfl <| cm rfl rfl .gtr <| nq <| ct rfl (fun hq350 => ?_) (fun hq350 => ?_)
          · have ho := cnd1 ho hq350
            refine r_region <| mv rfl <| s_bs (R := (rInt .i64)) S63 Y68 (.n rfl) rfl rfl (.c (.i (by decide) (by decide)) .n) rfl (by decide) ?_
            obtain ⟨x351, hx351, ho⟩ := bnd ho
            refine s_app 1 S63 Y68 hx351 (.n rfl) rfl rfl rfl rfl rfl (.t rfl) rfl (.t rfl) rfl ?_
            intro v352
            refine sg rfl <| nq <| r_seq <| rr <| mv rfl <| fa F42_2 fk_WorkRules_2 (by decide) rfl <| ld U3 rfl <| cm rfl rfl .gtr <| nq <| ct rfl (fun hq353 => ?_) (fun hq353 => ?_)
            · have ho := cnd1 ho hq353
              refine r_region <| mv rfl <| s_bs (R := (rInt .i64)) S63 Y68 (.n rfl) rfl rfl (.c (.i (by decide) (by decide)) .n) rfl (by decide) ?_
              obtain ⟨x354, hx354, ho⟩ := bnd ho
              refine s_app 0 S63 Y68 hx354 (.n rfl) rfl rfl rfl rfl rfl (.t rfl) rfl (.t rfl) rfl ?_
              intro v355
              refine sg rfl <| nq <| rr <| mv rfl <| sg rfl <| nq ?_
              cases ho
              exact r_ret (ret_of (.inr rfl) (.r 0 rfl rfl .n) (by decide))
            · have ho := cnd0 ho hq353
              refine kq rfl <| rr <| mv rfl <| sg rfl <| nq ?_
              cases ho
              exact r_ret (ret_of (.inr rfl) (.r 0 rfl rfl .n) (by decide))
          · have ho := cnd0 ho hq350
            refine kq rfl <| r_seq <| rr <| mv rfl <| fa F42_2 fk_WorkRules_2 (by decide) rfl <| ld U3 rfl <| cm rfl rfl .gtr <| nq <| ct rfl (fun hq356 => ?_) (fun hq356 => ?_)
            · have ho := cnd1 ho hq356
              refine r_region <| mv rfl <| s_bs (R := (rInt .i64)) S63 Y68 (.n rfl) rfl rfl (.c (.i (by decide) (by decide)) .n) rfl (by decide) ?_
              obtain ⟨x357, hx357, ho⟩ := bnd ho
              refine s_app 1 S63 Y68 hx357 (.n rfl) rfl rfl rfl rfl rfl (.t rfl) rfl (.t rfl) rfl ?_
              intro v358
              refine sg rfl <| nq <| rr <| mv rfl <| sg rfl <| nq ?_
              cases ho
              exact r_ret (ret_of (.inr rfl) (.r 0 rfl rfl .n) (by decide))
            · have ho := cnd0 ho hq356
              refine kq rfl <| rr <| mv rfl <| sg rfl <| nq ?_
              cases ho
              exact r_ret (ret_of (.inr rfl) (.r 1 rfl rfl .n) (by decide))
theorem g_duty_Faults_ok {p_0 : (List Task)} {p_1 : Yard} {p_2 : (List (List Int))} {p_3 : WorkRules} {p_4 : Duty} {out : ((List Int) × Int)} (ho : g_duty_Faults p_0 p_1 p_2 p_3 p_4 = some out) : Fun ktab 32 [.val (rSlice rTask) p_0, .val rYard p_1, .val (rSlice (rSlice (rInt .i64))) p_2, .val rWorkRules p_3, .val rDuty p_4] [.row (rInt .i64) (out.1), .val (rInt .i64) (out.2)] := by
  refine fun_of (F := Try.f32) (by rfl) (by rfl) (by rfl) (fun C hC => ?_)
  delta g_duty_Faults at ho
  refine rr <| bx rfl <| bx rfl <| bx rfl <| s_st (st_nilrow (rInt .i64)) <| s_assign (.n rfl) rfl rfl .nilr <| sgc (by decide) <| nq <| rr <| mv rfl <| ld U26 rfl <| mv rfl <| ld U42 rfl ?_
  obtain ⟨y2, hy2, ho⟩ := bnd ho
  refine s_call (pre := []) (post := []) (vs := []) (g_duty_crewed_ok hy2) rfl (.n rfl) rfl rfl rfl .f (.c (.t rfl) (.c (.t rfl) (.c (.t rfl) (.c (.t rfl) .n)))) ?_
  show SOps ..
  refine mv rfl <| ext rfl rfl <| ext rfl rfl <| sg rfl <| sg rfl <| nq <| r_seq <| r_seq ?_
  obtain ⟨c5, hc5, ho⟩ := bnd ho
  refine r_cut (τ := (Bool)) (G := Unit) (fun t => (.normal, fun _ => ([(2, .val (rSlice (rSlice (rInt .i64))) (p_2)), (9, .val (rPtr rDuty) (p_4)), (12, .val (rPtrN rduty_crew) (y2.1)), (32, .val rBool (t))], [(.nilslice, .row (rInt .i64) ([]))]))) (t := c5) ?_ ?_
  · have ho := hc5
    clear hc5
    refine r_region <| mv rfl <| s_not (.n rfl) rfl rfl (.t rfl) <| mv rfl ?_
    rcases Bool.eq_false_or_eq_true ((!y2.2)) with hb6 | hb6
    · have ho := cnd1 ho hb6
      refine skg (gf1 hb6) rfl rfl <| skg (gf1 hb6) rfl rfl <| skg (gf1 hb6) rfl rfl <| skg (gf1 hb6) rfl rfl <| skg (gf1 hb6) rfl rfl <| pk1 hb6 rfl .b ?_
      cases ho
      exact s_nil (fun fr h s => And.intro rfl (Exists.intro () (s.pick [0] ⟨rfl, rfl, rfl, rfl, trivial⟩ rfl (by decide))))
    · have ho := cnd0 ho hb6
      refine s_fa F62_0 fk_Duty_0 (by decide) (.g rfl rfl (gf0 hb6)) rfl rfl (.t rfl) <| ldg U60 (gf0 hb6) rfl rfl rfl <| s_len S60 (.g rfl rfl (gf0 hb6)) rfl rfl rfl rfl rfl (.t rfl) ?_
      obtain ⟨y7, hy7, ho⟩ := bnd ho
      refine s_calll (g_duty_within_ok hy7) (.v flat_bool .n) rfl (.g rfl rfl (gf0 hb6)) rfl rfl rfl .f (.c (.o (.t rfl)) (.c (.o (.i (by decide) (by decide))) (.c (.o (.i (by decide) (by decide))) .n))) ?_
      show SOps ..
      refine s_not (.g rfl rfl (gf0 hb6)) rfl rfl (.t rfl) <| pk0 hb6 rfl (.t rfl) ?_
      cases ho
      exact s_nil (fun fr h s => And.intro rfl (Exists.intro () (s.pick [0] ⟨rfl, rfl, rfl, rfl, trivial⟩ rfl (by decide))))
  · intro _
    show SRun ..
    refine ct rfl (fun hq8 => ?_) (fun hq8 => ?_)
    · have ho := cnd1 ho hq8
      refine rr <| s_st (st_nilrow (rInt .i64)) <| s_assign (.n rfl) rfl rfl .nilr <| sgc (by decide) <| nq ?_
      cases ho
      exact r_ret (ret_of (.inr rfl) (.r 0 rfl rfl (.v rfl .n)) (by decide))
    · have ho := cnd0 ho hq8
      refine kq rfl <| r_seq <| rr <| fa F62_0 fk_Duty_0 (by decide) rfl <| ld U60 rfl <| ln S60 rfl rfl rfl (.t rfl) <| mvc (by decide) <| nq <| r_block ?_
      obtain ⟨t60, ht60, ho⟩ := bnd ho
      refine r_loop (σ := (Int)) (τ := Unit ⊕ ((List Int) × Int)) (G := List AVal) (fun s g => ([(2, .val (rSlice (rSlice (rInt .i64))) (p_2)), (9, .val (rPtr rDuty) (p_4)), (12, .val (rPtrN rduty_crew) (y2.1)), (34, .val (rSlice rDutyPiece) (p_4.1)), (35, .val (rInt .i64) ((lenI p_4.1))), (36, .val (rInt .i64) (s))], [])) (altX (fun b => (.exit 0, fun g => ([(9, .val (rPtr rDuty) (p_4)), (12, .val (rPtrN rduty_crew) (y2.1))], []))) (fun b => (.ret, fun g => ([(10, .raw ((gh g 0))), (11, .val (rInt .i64) (b.2))], [((gh g 0), .row (rInt .i64) (b.1))])))) _ [] ht60 (fun fr h s => s.pick [] ⟨rfl, rfl, rfl, rfl, rfl, rfl, trivial⟩ rfl (by decide)) ?_ ?_ ?_
      · intro t
        rcases t with t | t
        · exact nx
        · exact nr
      · clear ho
        intro s32 g33 r61 ho
        refine rr <| cm rfl rfl .lss <| nq <| r_seq <| ct rfl (fun hq35 => ?_) (fun hq35 => ?_)
        · have ho := cnd1 ho hq35
          refine kq rfl <| r_seq <| r_block <| rr ?_
          obtain ⟨x36, hx36, ho⟩ := bnd ho
          refine ix S60 hx36 rfl rfl <| ld U78 rfl <| s_alloc (zv := .agg [.int .i64 0, .int .i64 0, .int .i64 0]) (es := [.val (rInt .i64) (0), .val (rInt .i64) (0), .val (rInt .i64) (0)]) (by kernel_rfl) (fun _ => (okint (okint (okint okn)))) rfl (.n rfl) rfl rfl ?_
          intro b37
          refine s_storebs 0 U78 rfl (c1 rfl (c1 rfl (c1 rfl cells_unit))) (by rfl) (.n rfl) rfl rfl (.t rfl) (.t rfl) (by rfl) <| s_st (st_freezeb (R := rDutyPiece) (a := x36) 0 [15] (c1 rfl (c1 rfl (c1 rfl cells_unit))) rfl rfl ⟨rfl, trivial⟩) ?_
          refine nq <| r_seq ?_
          refine r_draw [] (by kernel_rfl) ?_
          refine fa F78_0 fk_DutyPiece_0 (by decide) rfl <| ld U3 rfl <| mv rfl <| ln S23 rfl rfl rfl (.t rfl) <| arc rfl (by decide) .sub ?_
          obtain ⟨y45, hy45, ho⟩ := bnd ho
          refine s_calll (g_duty_within_ok hy45) (.v flat_bool .n) rfl (.n rfl) rfl rfl rfl .f (.c (.o (.t rfl)) (.c (.o (.i (by decide) (by decide))) (.c (.o (.t rfl)) .n))) ?_
          show SOps ..
          refine s_not (.n rfl) rfl rfl (.t rfl) <| mv rfl ?_
          rcases Bool.eq_false_or_eq_true ((!y45)) with hb46 | hb46
          · have ho := cnd1 ho hb46
            refine skg (gf1 hb46) rfl rfl <| skg (gf1 hb46) rfl rfl <| skg (gf1 hb46) rfl rfl <| skg (gf1 hb46) rfl rfl <| skg (gf1 hb46) rfl rfl <| skg (gf1 hb46) rfl rfl <| skg (gf1 hb46) rfl rfl <| skg (gf1 hb46) rfl rfl <| skg (gf1 hb46) rfl rfl <| skg (gf1 hb46) rfl rfl <| skg (gf1 hb46) rfl rfl <| pk1 hb46 rfl .b <| mv rfl <| skg rfl rfl rfl <| skg rfl rfl rfl <| skg rfl rfl rfl <| skg rfl rfl rfl <| skg rfl rfl rfl ?_
            refine skg rfl rfl rfl <| pt rfl .b <| nq <| ct rfl (fun _ => ?_) (fun hq => by cases hq)
            refine rr <| s_st (st_nilrow (rInt .i64)) <| s_assign (.n rfl) rfl rfl .nilr <| sgc (by decide) <| nq ?_
            cases ho
            exact r_ret (fun fr h s => And.intro rfl (Exists.intro [.nilslice] (s.pick [0] ⟨rfl, rfl, trivial⟩ rfl (by decide))))
          · have ho := cnd0 ho hb46
            refine s_fa F78_2 fk_DutyPiece_2 (by decide) (.g rfl rfl (gf0 hb46)) rfl rfl (.t rfl) <| ldg U3 (gf0 hb46) rfl rfl rfl <| mvg (gf0 hb46) rfl rfl rfl <| s_fa F78_0 fk_DutyPiece_0 (by decide) (.g rfl rfl (gf0 hb46)) rfl rfl (.t rfl) <| ldg U3 (gf0 hb46) rfl rfl rfl ?_
            obtain ⟨x50, hx50, ho⟩ := bnd ho
            refine s_idx S23 hx50 (.g rfl rfl (gf0 hb46)) rfl rfl (.t rfl) (.t rfl) <| ldg U29 (gf0 hb46) rfl rfl rfl <| s_len S29 (.g rfl rfl (gf0 hb46)) rfl rfl rfl rfl rfl (.t rfl) <| s_ar (.g rfl rfl (gf0 hb46)) rfl rfl (.t rfl) (.i (by decide) (by decide)) .sub ?_
            obtain ⟨y51, hy51, ho⟩ := bnd ho
            refine s_calll (g_duty_within_ok hy51) (.v flat_bool .n) rfl (.g rfl rfl (gf0 hb46)) rfl rfl rfl .f (.c (.o (.t rfl)) (.c (.o (.i (by decide) (by decide))) (.c (.o (.t rfl)) .n))) ?_
            show SOps ..
            refine s_not (.g rfl rfl (gf0 hb46)) rfl rfl (.t rfl) <| pk0 hb46 rfl (.t rfl) <| mv rfl ?_
            rcases Bool.eq_false_or_eq_true ((!y51)) with hb52 | hb52
            · have ho := cnd1 ho hb52
              refine skg (gf1 hb52) rfl rfl <| skg (gf1 hb52) rfl rfl <| skg (gf1 hb52) rfl rfl <| skg (gf1 hb52) rfl rfl <| skg (gf1 hb52) rfl rfl <| skg (gf1 hb52) rfl rfl <| pk1 hb52 rfl .b <| nq <| ct rfl (fun _ => ?_) (fun hq => by cases hq)
              refine rr <| s_st (st_nilrow (rInt .i64)) <| s_assign (.n rfl) rfl rfl .nilr <| sgc (by decide) <| nq ?_
              cases ho
              exact r_ret (fun fr h s => And.intro rfl (Exists.intro [.nilslice] (s.pick [0] ⟨rfl, rfl, trivial⟩ rfl (by decide))))
            · have ho := cnd0 ho hb52
              refine s_fa F78_1 fk_DutyPiece_1 (by decide) (.g rfl rfl (gf0 hb52)) rfl rfl (.t rfl) <| ldg U3 (gf0 hb52) rfl rfl rfl <| s_fa F78_2 fk_DutyPiece_2 (by decide) (.g rfl rfl (gf0 hb52)) rfl rfl (.t rfl) <| ldg U3 (gf0 hb52) rfl rfl rfl ?_
              obtain ⟨y56, hy56, ho⟩ := bnd ho
              refine s_calll (g_duty_within_ok hy56) (.v flat_bool .n) rfl (.g rfl rfl (gf0 hb52)) rfl rfl rfl .f (.c (.o (.t rfl)) (.c (.o (.i (by decide) (by decide))) (.c (.o (.t rfl)) .n))) ?_
              show SOps ..
              refine s_not (.g rfl rfl (gf0 hb52)) rfl rfl (.t rfl) <| pk0 hb52 rfl (.t rfl) <| nq <| ct rfl (fun hq57 => ?_) (fun hq57 => ?_)
              · have ho := cnd1 ho hq57
                refine rr <| s_st (st_nilrow (rInt .i64)) <| s_assign (.n rfl) rfl rfl .nilr <| sgc (by decide) <| nq ?_
                cases ho
                exact r_ret (fun fr h s => And.intro rfl (Exists.intro [.nilslice] (s.pick [0] ⟨rfl, rfl, trivial⟩ rfl (by decide))))
              · have ho := cnd0 ho hq57
                refine kq rfl <| r_region <| arc rfl (by decide) .add <| mv rfl ?_
                cases ho
                exact s_nil fun _ _ s => fz [] s ⟨rfl, rfl, rfl, rfl, rfl, rfl, trivial⟩ rfl
        · have ho := cnd0 ho hq35
          cases ho
          exact r_exit fun _ _ s => fz [] s ⟨rfl, rfl, trivial⟩ rfl
      · clear ht60
        rcases t60 with b62 | b63
        · have ho := alt_l ho
          intro g64
          show ∀ fr h, St _ [(9, .val (rPtr rDuty) (p_4)), (12, .val (rPtrN rduty_crew) (y2.1))] [] fr h → _
          show SRun ..
          refine rr <| mv rfl <| ld U62 rfl ?_
          obtain ⟨p65, hp65, ho⟩ := bnd ho
          refine s_st (st_someptr (n := 69) hp65 rfl) ?_
          obtain ⟨y66, hy66, ho⟩ := bnd ho
          refine s_calll (g_duty_crew_faults_ok hy66) (.r flat_int .n) rfl (.n rfl) rfl rfl rfl .f (.c (.o (.t rfl)) (.c (.o (.t rfl)) .n)) ?_
          intro v67
          show SOps ..
          refine sg rfl <| sgc (by decide) <| nq ?_
          cases ho
          exact r_ret (ret_of (.inr rfl) (.r 0 rfl rfl (.v rfl .n)) (by decide))
        · have ho := alt_r ho
          intro g69
          show ∀ fr h, St _ [(10, .raw ((gh g69 0))), (11, .val (rInt .i64) (b63.2))] [((gh g69 0), .row (rInt .i64) (b63.1))] fr h → _
          cases ho
          exact id (ret_of (.inr rfl) (.r 0 rfl rfl (.v rfl .n)) (by decide))
theorem g_ref08_Duty_ok {cars_0 : (List (List Int))} {d_1 : Duty} {out : (Bool)} (ho : g_ref08_Duty cars_0 d_1 = some out) : Fun ktab 33 [.val (rSlice (rSlice (rInt .i64))) cars_0, .val rDuty d_1] [.val rBool (out)] := by
  refine fun_of (F := Try.f33) (by rfl) (by rfl) (by rfl) (fun C hC => ?_)
  delta g_ref08_Duty at ho
  refine rr <| bx rfl <| sgb <| nq <| r_seq <| rr <| sgc (by decide) <| nq <| r_block ?_
  obtain ⟨t39, ht39, ho⟩ := bnd ho
  refine r_loop (σ := (Int)) (τ := Unit ⊕ (Bool)) (G := List AVal) (fun s g => ([(0, .val (rSlice (rSlice (rInt .i64))) (cars_0)), (3, .val (rPtr rDuty) (d_1)), (5, .val (rInt .i64) (s))], [])) (altX (fun b => (.exit 0, fun g => ([(3, .val (rPtr rDuty) (d_1))], []))) (fun b => (.ret, fun g => ([(4, .val rBool (b))], [])))) _ [] ht39 (fun fr h s => s.pick [] ⟨rfl, rfl, rfl, trivial⟩ rfl (by decide)) ?_ ?_ ?_
  · intro t
    rcases t with t | t
    · exact nx
    · exact nr
  · clear ho
    intro s19 g20 r40 ho
    refine r_seq <| rr <| mv rfl <| fa F62_0 fk_Duty_0 (by decide) rfl <| ld U60 rfl <| ln S60 rfl rfl rfl (.t rfl) <| cm rfl rfl .lss <| nq <| ct rfl (fun hq21 => ?_) (fun hq21 => ?_)
    · have ho := cnd1 ho hq21
      refine kq rfl <| r_seq <| r_block <| rr <| fa F62_0 fk_Duty_0 (by decide) rfl <| ld U60 rfl <| mv rfl ?_
      obtain ⟨x22, hx22, ho⟩ := bnd ho
      refine ix S60 hx22 rfl rfl <| ld U78 rfl <| s_alloc (zv := .agg [.int .i64 0, .int .i64 0, .int .i64 0]) (es := [.val (rInt .i64) (0), .val (rInt .i64) (0), .val (rInt .i64) (0)]) (by kernel_rfl) (fun _ => (okint (okint (okint okn)))) rfl (.n rfl) rfl rfl ?_
      intro b23
      refine s_storebs 0 U78 rfl (c1 rfl (c1 rfl (c1 rfl cells_unit))) (by rfl) (.n rfl) rfl rfl (.t rfl) (.t rfl) (by rfl) <| s_st (st_freezeb (R := rDutyPiece) (a := x22) 0 [6] (c1 rfl (c1 rfl (c1 rfl cells_unit))) rfl rfl ⟨rfl, trivial⟩) ?_
      refine nq <| r_seq ?_
      refine r_draw [] (by kernel_rfl) ?_
      refine fa F78_0 fk_DutyPiece_0 (by decide) rfl <| ld U3 rfl <| mv rfl <| ln S23 rfl rfl rfl (.t rfl) <| arc rfl (by decide) .sub ?_
      obtain ⟨y30, hy30, ho⟩ := bnd ho
      refine s_calll (g_ref08_in_ok hy30) (.v flat_bool .n) rfl (.n rfl) rfl rfl rfl .f (.c (.o (.t rfl)) (.c (.o (.i (by decide) (by decide))) (.c (.o (.t rfl)) .n))) ?_
      show SOps ..
      refine s_not (.n rfl) rfl rfl (.t rfl) <| mv rfl ?_
      rcases Bool.eq_false_or_eq_true ((!y30)) with hb31 | hb31
      · have ho := cnd1 ho hb31
        refine skg (gf1 hb31) rfl rfl <| skg (gf1 hb31) rfl rfl <| skg (gf1 hb31) rfl rfl <| pk1 hb31 rfl .b <| mv rfl <| skg rfl rfl rfl <| skg rfl rfl rfl <| skg rfl rfl rfl <| skg rfl rfl rfl <| skg rfl rfl rfl <| pt rfl .b <| mv rfl <| skg rfl rfl rfl <| skg rfl rfl rfl <| skg rfl rfl rfl <| skg rfl rfl rfl <| skg rfl rfl rfl <| skg rfl rfl rfl <| skg rfl rfl rfl <| skg rfl rfl rfl <| skg rfl rfl rfl <| pt rfl .b ?_
        refine nq <| ct rfl (fun _ => ?_) (fun hq => by cases hq)
        refine rr <| sgb <| nq ?_
        cases ho
        exact r_ret fun _ _ s => fz [] s ⟨rfl, trivial⟩ rfl
      · have ho := cnd0 ho hb31
        refine s_fa F78_1 fk_DutyPiece_1 (by decide) (.g rfl rfl (gf0 hb31)) rfl rfl (.t rfl) <| ldg U3 (gf0 hb31) rfl rfl rfl <| s_cmp (.g rfl rfl (gf0 hb31)) rfl rfl (.t rfl) (.i (by decide) (by decide)) .lss <| pk0 hb31 rfl (.t rfl) <| mv rfl ?_
        rcases Bool.eq_false_or_eq_true ((decide (x22.2.1 < 0))) with hb33 | hb33
        · have ho := cnd1 ho hb33
          refine skg (gf1 hb33) rfl rfl <| skg (gf1 hb33) rfl rfl <| skg (gf1 hb33) rfl rfl <| skg (gf1 hb33) rfl rfl <| skg (gf1 hb33) rfl rfl <| pk1 hb33 rfl .b <| mv rfl <| skg rfl rfl rfl <| skg rfl rfl rfl <| skg rfl rfl rfl <| skg rfl rfl rfl <| skg rfl rfl rfl <| skg rfl rfl rfl <| skg rfl rfl rfl <| skg rfl rfl rfl <| skg rfl rfl rfl <| pt rfl .b <| nq <| ct rfl (fun _ => ?_) (fun hq => by cases hq)
          refine rr <| sgb <| nq ?_
          cases ho
          exact r_ret fun _ _ s => fz [] s ⟨rfl, trivial⟩ rfl
        · have ho := cnd0 ho hb33
          refine s_fa F78_1 fk_DutyPiece_1 (by decide) (.g rfl rfl (gf0 hb33)) rfl rfl (.t rfl) <| ldg U3 (gf0 hb33) rfl rfl rfl <| s_fa F78_2 fk_DutyPiece_2 (by decide) (.g rfl rfl (gf0 hb33)) rfl rfl (.t rfl) <| ldg U3 (gf0 hb33) rfl rfl rfl <| s_cmp (.g rfl rfl (gf0 hb33)) rfl rfl (.t rfl) (.t rfl) .gtr <| pk0 hb33 rfl (.t rfl) <| mv rfl ?_
          rcases Bool.eq_false_or_eq_true ((decide (x22.2.1 > x22.2.2.1))) with hb35 | hb35
          · have ho := cnd1 ho hb35
            refine skg (gf1 hb35) rfl rfl <| skg (gf1 hb35) rfl rfl <| skg (gf1 hb35) rfl rfl <| skg (gf1 hb35) rfl rfl <| skg (gf1 hb35) rfl rfl <| skg (gf1 hb35) rfl rfl <| skg (gf1 hb35) rfl rfl <| skg (gf1 hb35) rfl rfl <| skg (gf1 hb35) rfl rfl <| pk1 hb35 rfl .b <| nq <| ct rfl (fun _ => ?_) (fun hq => by cases hq)
            refine rr <| sgb <| nq ?_
            cases ho
            exact r_ret fun _ _ s => fz [] s ⟨rfl, trivial⟩ rfl
          · have ho := cnd0 ho hb35
            refine s_fa F78_2 fk_DutyPiece_2 (by decide) (.g rfl rfl (gf0 hb35)) rfl rfl (.t rfl) <| ldg U3 (gf0 hb35) rfl rfl rfl <| mvg (gf0 hb35) rfl rfl rfl <| s_fa F78_0 fk_DutyPiece_0 (by decide) (.g rfl rfl (gf0 hb35)) rfl rfl (.t rfl) <| ldg U3 (gf0 hb35) rfl rfl rfl ?_
            obtain ⟨x37, hx37, ho⟩ := bnd ho
            refine s_idx S23 hx37 (.g rfl rfl (gf0 hb35)) rfl rfl (.t rfl) (.t rfl) <| ldg U29 (gf0 hb35) rfl rfl rfl <| s_len S29 (.g rfl rfl (gf0 hb35)) rfl rfl rfl rfl rfl (.t rfl) <| s_cmp (.g rfl rfl (gf0 hb35)) rfl rfl (.t rfl) (.t rfl) .geq <| pk0 hb35 rfl (.t rfl) <| nq <| ct rfl (fun hq38 => ?_) (fun hq38 => ?_)
            · have ho := cnd1 ho hq38
              refine rr <| sgb <| nq ?_
              cases ho
              exact r_ret fun _ _ s => fz [] s ⟨rfl, trivial⟩ rfl
            · have ho := cnd0 ho hq38
              refine kq rfl <| r_region <| mv rfl <| arc rfl (by decide) .add <| sg rfl ?_
              cases ho
              exact s_nil fun _ _ s => fz [] s ⟨rfl, rfl, rfl, trivial⟩ rfl
    · have ho := cnd0 ho hq21
      cases ho
      exact r_exit fun _ _ s => fz [] s ⟨rfl, trivial⟩ rfl
  · clear ht39
    rcases t39 with b41 | b42
    · have ho := alt_l ho
      intro g43
      show ∀ fr h, St _ [(3, .val (rPtr rDuty) (d_1))] [] fr h → _
      show SRun ..
      refine rr <| fa F62_0 fk_Duty_0 (by decide) rfl <| ld U60 rfl <| ln S60 rfl rfl rfl (.t rfl) ?_
      obtain ⟨y44, hy44, ho⟩ := bnd ho
      refine s_calll (g_ref08_in_ok hy44) (.v flat_bool .n) rfl (.n rfl) rfl rfl rfl .f (.c (.o (.t rfl)) (.c (.o (.i (by decide) (by decide))) (.c (.o (.i (by decide) (by decide))) .n))) ?_
      show SOps ..
      refine sg rfl <| nq ?_
      cases ho
      exact r_ret (ret_of (.inr rfl) (.v rfl .n) (by decide))
    · have ho := alt_r ho
      intro g45
      show ∀ fr h, St _ [(4, .val rBool (b42))] [] fr h → _
      cases ho
      exact id (ret_of (.inr rfl) (.v rfl .n) (by decide))
theorem g_law08_DutyFaults_ok {p_0 : (List Task)} {p_1 : Yard} {p_2 : (List (List Int))} {p_3 : WorkRules} {p_4 : Duty} {out : (Bool)} (ho : g_law08_DutyFaults p_0 p_1 p_2 p_3 p_4 = some out) : Fun ktab 8 [.val (rSlice rTask) p_0, .val rYard p_1, .val (rSlice (rSlice (rInt .i64))) p_2, .val rWorkRules p_3, .val rDuty p_4] [.val rBool (out)] := by
  refine fun_of (F := Try.f8) (by rfl) (by rfl) (by rfl) (fun C hC => ?_)
  delta g_law08_DutyFaults at ho
  refine rr <| bx rfl <| bx rfl <| bx rfl <| sgb <| nq <| r_seq <| r_seq ?_
  obtain ⟨c5, hc5, ho⟩ := bnd ho
  refine r_cut (τ := (Bool)) (G := Unit) (fun t => (.normal, fun _ => ([(0, .val (rSlice rTask) (p_0)), (2, .val (rSlice (rSlice (rInt .i64))) (p_2)), (6, .val (rPtr rYard) (p_1)), (8, .val (rPtr rWorkRules) (p_3)), (9, .val (rPtr rDuty) (p_4)), (29, .val rBool (t))], []))) (t := c5) ?_ ?_
  · have ho := hc5
    clear hc5
    refine r_region <| mv rfl <| ld U26 rfl ?_
    obtain ⟨y6, hy6, ho⟩ := bnd ho
    refine s_calll (g_law08_few_ok hy6) (.v flat_bool .n) rfl (.n rfl) rfl rfl rfl .f (.c (.o (.t rfl)) (.c (.o (.t rfl)) (.c (.o (.i (by decide) (by decide))) .n))) ?_
    show SOps ..
    refine s_not (.n rfl) rfl rfl (.t rfl) <| mv rfl ?_
    rcases Bool.eq_false_or_eq_true ((!y6)) with hb7 | hb7
    · have ho := cnd1 ho hb7
      refine skg (gf1 hb7) rfl rfl <| skg (gf1 hb7) rfl rfl <| skg (gf1 hb7) rfl rfl <| pk1 hb7 rfl .b <| mv rfl <| skg rfl rfl rfl <| skg rfl rfl rfl <| skg rfl rfl rfl <| skg rfl rfl rfl <| pt rfl .b ?_
      cases ho
      exact s_nil fun _ _ s => fz () s ⟨rfl, rfl, rfl, rfl, rfl, rfl, trivial⟩ rfl
    · have ho := cnd0 ho hb7
      refine mvg (gf0 hb7) rfl rfl rfl ?_
      obtain ⟨y8, hy8, ho⟩ := bnd ho
      refine s_calll (g_law08_plans_ok hy8) (.v flat_bool .n) rfl (.g rfl rfl (gf0 hb7)) rfl rfl rfl .f (.c (.o (.t rfl)) .n) ?_
      show SOps ..
      refine s_not (.g rfl rfl (gf0 hb7)) rfl rfl (.t rfl) <| pk0 hb7 rfl (.t rfl) <| mv rfl ?_
      rcases Bool.eq_false_or_eq_true ((!y8)) with hb9 | hb9
      · have ho := cnd1 ho hb9
        refine skg (gf1 hb9) rfl rfl <| skg (gf1 hb9) rfl rfl <| skg (gf1 hb9) rfl rfl <| skg (gf1 hb9) rfl rfl <| pk1 hb9 rfl .b ?_
        cases ho
        exact s_nil fun _ _ s => fz () s ⟨rfl, rfl, rfl, rfl, rfl, rfl, trivial⟩ rfl
      · have ho := cnd0 ho hb9
        refine s_fa F62_0 fk_Duty_0 (by decide) (.g rfl rfl (gf0 hb9)) rfl rfl (.t rfl) <| ldg U60 (gf0 hb9) rfl rfl rfl <| s_len S60 (.g rfl rfl (gf0 hb9)) rfl rfl rfl rfl rfl (.t rfl) <| s_cmp (.g rfl rfl (gf0 hb9)) rfl rfl (.t rfl) (.i (by decide) (by decide)) .gtr <| pk0 hb9 rfl (.t rfl) ?_
        cases ho
        exact s_nil fun _ _ s => fz () s ⟨rfl, rfl, rfl, rfl, rfl, rfl, trivial⟩ rfl
  · intro _
    show SRun ..
    refine ct rfl (fun hq10 => ?_) (fun hq10 => ?_)
    · have ho := cnd1 ho hq10
      refine rr ?_
      obtain ⟨y11, hy11, ho⟩ := bnd ho
      refine s_calll (g_law08_known_ok hy11) (.v flat_bool .n) rfl (.n rfl) rfl rfl rfl .f .n ?_
      show SOps ..
      refine sg rfl <| nq ?_
      cases ho
      exact r_ret (ret_of (.inr rfl) (.v rfl .n) (by decide))
    · have ho := cnd0 ho hq10
      refine kq rfl <| rr <| mv rfl <| ld U26 rfl <| mv rfl <| ld U42 rfl <| ld U62 rfl ?_
      obtain ⟨y12, hy12, ho⟩ := bnd ho
      refine s_calll (g_duty_Faults_ok hy12) (.r flat_int (.v flat_int .n)) rfl (.n rfl) rfl rfl rfl .f (.c (.o (.t rfl)) (.c (.o (.t rfl)) (.c (.o (.t rfl)) (.c (.o (.t rfl)) (.c (.o (.t rfl)) .n))))) ?_
      intro v13
      show SOps ..
      refine mv rfl <| ext rfl rfl <| ext rfl rfl <| sg rfl <| sg rfl <| nq <| r_seq <| r_seq ?_
      obtain ⟨c22, hc22, ho⟩ := bnd ho
      refine r_cut (τ := (Bool)) (G := Unit) (fun t => (.normal, fun _ => ([(0, .val (rSlice rTask) (p_0)), (2, .val (rSlice (rSlice (rInt .i64))) (p_2)), (6, .val (rPtr rYard) (p_1)), (8, .val (rPtr rWorkRules) (p_3)), (9, .val (rPtr rDuty) (p_4)), (11, .raw v13), (12, .val (rInt .i64) (y12.2)), (61, .val rBool (t))], [(v13, .row (rInt .i64) (y12.1))]))) (t := c22) ?_ ?_
      · have ho := hc22
        clear hc22
        refine r_region <| mv rfl <| ld U26 rfl ?_
        obtain ⟨y23, hy23, ho⟩ := bnd ho
        refine s_calll (g_ref08_Fine_ok hy23) (.v flat_bool .n) rfl (.n rfl) rfl rfl rfl .f (.c (.o (.t rfl)) (.c (.o (.t rfl)) .n)) ?_
        show SOps ..
        refine s_not (.n rfl) rfl rfl (.t rfl) <| mv rfl ?_
        rcases Bool.eq_false_or_eq_true ((!y23)) with hb24 | hb24
        · have ho := cnd1 ho hb24
          refine skg (gf1 hb24) rfl rfl <| skg (gf1 hb24) rfl rfl <| skg (gf1 hb24) rfl rfl <| skg (gf1 hb24) rfl rfl <| skg (gf1 hb24) rfl rfl <| pk1 hb24 rfl .b <| mv rfl <| skg rfl rfl rfl <| skg rfl rfl rfl <| skg rfl rfl rfl <| pt rfl .b <| mv rfl <| skg rfl rfl rfl <| skg rfl rfl rfl <| skg rfl rfl rfl <| skg rfl rfl rfl <| pt rfl .b ?_
          cases ho
          exact s_nil (fun fr h s => And.intro rfl (Exists.intro () (s.pick [0] ⟨rfl, rfl, rfl, rfl, rfl, rfl, rfl, rfl, trivial⟩ rfl (by decide))))
        · have ho := cnd0 ho hb24
          refine mvg (gf0 hb24) rfl rfl rfl <| ldg U26 (gf0 hb24) rfl rfl rfl <| mvg (gf0 hb24) rfl rfl rfl ?_
          obtain ⟨y25, hy25, ho⟩ := bnd ho
          refine s_calll (g_ref08_Plan_ok hy25) (.v flat_bool .n) rfl (.g rfl rfl (gf0 hb24)) rfl rfl rfl .f (.c (.o (.t rfl)) (.c (.o (.t rfl)) (.c (.o (.t rfl)) .n))) ?_
          show SOps ..
          refine s_not (.g rfl rfl (gf0 hb24)) rfl rfl (.t rfl) <| pk0 hb24 rfl (.t rfl) <| mv rfl ?_
          rcases Bool.eq_false_or_eq_true ((!y25)) with hb26 | hb26
          · have ho := cnd1 ho hb26
            refine skg (gf1 hb26) rfl rfl <| skg (gf1 hb26) rfl rfl <| skg (gf1 hb26) rfl rfl <| pk1 hb26 rfl .b <| mv rfl <| skg rfl rfl rfl <| skg rfl rfl rfl <| skg rfl rfl rfl <| skg rfl rfl rfl <| pt rfl .b ?_
            cases ho
            exact s_nil (fun fr h s => And.intro rfl (Exists.intro () (s.pick [0] ⟨rfl, rfl, rfl, rfl, rfl, rfl, rfl, rfl, trivial⟩ rfl (by decide))))
          · have ho := cnd0 ho hb26
            refine ldg U42 (gf0 hb26) rfl rfl rfl ?_
            obtain ⟨y27, hy27, ho⟩ := bnd ho
            refine s_calll (g_ref08_Rules_ok hy27) (.v flat_bool .n) rfl (.g rfl rfl (gf0 hb26)) rfl rfl rfl .f (.c (.o (.t rfl)) .n) ?_
            show SOps ..
            refine s_not (.g rfl rfl (gf0 hb26)) rfl rfl (.t rfl) <| pk0 hb26 rfl (.t rfl) <| mv rfl ?_
            rcases Bool.eq_false_or_eq_true ((!y27)) with hb28 | hb28
            · have ho := cnd1 ho hb28
              refine skg (gf1 hb28) rfl rfl <| skg (gf1 hb28) rfl rfl <| skg (gf1 hb28) rfl rfl <| skg (gf1 hb28) rfl rfl <| pk1 hb28 rfl .b ?_
              cases ho
              exact s_nil (fun fr h s => And.intro rfl (Exists.intro () (s.pick [0] ⟨rfl, rfl, rfl, rfl, rfl, rfl, rfl, rfl, trivial⟩ rfl (by decide))))
            · have ho := cnd0 ho hb28
              refine mvg (gf0 hb28) rfl rfl rfl <| ldg U62 (gf0 hb28) rfl rfl rfl ?_
              obtain ⟨y29, hy29, ho⟩ := bnd ho
              refine s_calll (g_ref08_Duty_ok hy29) (.v flat_bool .n) rfl (.g rfl rfl (gf0 hb28)) rfl rfl rfl .f (.c (.o (.t rfl)) (.c (.o (.t rfl)) .n)) ?_
              show SOps ..
              refine s_not (.g rfl rfl (gf0 hb28)) rfl rfl (.t rfl) <| pk0 hb28 rfl (.t rfl) ?_
              cases ho
              exact s_nil (fun fr h s => And.intro rfl (Exists.intro () (s.pick [0] ⟨rfl, rfl, rfl, rfl, rfl, rfl, rfl, rfl, trivial⟩ rfl (by decide))))
      · intro _
        show SRun ..
        refine ct rfl (fun hq30 => ?_) (fun hq30 => ?_)
        · have ho := cnd1 ho hq30
          refine r_seq ?_
          obtain ⟨c34, hc34, ho⟩ := bnd ho
          refine r_cut (τ := (Bool)) (G := Unit) (fun t => (.normal, fun _ => ([(10, .val rBool (t))], [(v13, .row (rInt .i64) (y12.1))]))) (t := c34) ?_ ?_
          · have ho := hc34
            clear hc34
            refine r_region <| mv rfl <| cmc rfl (by decide) .eql <| mv rfl ?_
            rcases Bool.eq_false_or_eq_true ((y12.2 == 2)) with hb35 | hb35
            · have ho := cnd1 ho hb35
              refine mvg (gt1 hb35) rfl rfl rfl <| s_leno 0 S63 (.g rfl rfl (gt1 hb35)) rfl rfl rfl rfl rfl (.t rfl) rfl <| s_cmp (.g rfl rfl (gt1 hb35)) rfl rfl (.t rfl) (.i (by decide) (by decide)) .eql <| pk1 hb35 rfl (.t rfl) <| mv rfl ?_
              rcases Bool.eq_false_or_eq_true (((lenI y12.1) == 0)) with hb36 | hb36
              · have ho := cnd1 ho hb36
                obtain ⟨y37, hy37, ho⟩ := bnd ho
                refine s_calll (g_law08_known_ok hy37) (.v flat_bool .n) rfl (.g rfl rfl (gt1 hb36)) rfl rfl rfl .f .n ?_
                show SOps ..
                refine pk1 hb36 rfl (.t rfl) <| sg rfl ?_
                cases ho
                exact s_nil (fun fr h s => And.intro rfl (Exists.intro () (s.pick [0] ⟨rfl, trivial⟩ rfl (by decide))))
              · have ho := cnd0 ho hb36
                refine skg (gt0 hb36) rfl rfl <| pk0 hb36 rfl .b <| sg rfl ?_
                cases ho
                exact s_nil (fun fr h s => And.intro rfl (Exists.intro () (s.pick [0] ⟨rfl, trivial⟩ rfl (by decide))))
            · have ho := cnd0 ho hb35
              refine skg (gt0 hb35) rfl rfl <| skg (gt0 hb35) rfl rfl <| skg (gt0 hb35) rfl rfl <| pk0 hb35 rfl .b <| mv rfl <| skg rfl rfl rfl <| s_pick0 (.n rfl) rfl rfl (.t rfl) .b <| sg rfl ?_
              cases ho
              exact s_nil (fun fr h s => And.intro rfl (Exists.intro () (s.pick [0] ⟨rfl, trivial⟩ rfl (by decide))))
          · intro _
            show SRun ..
            cases ho
            exact r_ret (ret_of (.inr rfl) (.v rfl .n) (by decide))
        · have ho := cnd0 ho hq30
          refine kq rfl <| rr <| mv rfl <| ld U26 rfl <| mv rfl <| ld U42 rfl <| ld U62 rfl ?_
          obtain ⟨y38, hy38, ho⟩ := bnd ho
          refine s_calll (g_ref08_Faults_ok hy38) (.r flat_int .n) rfl (.n rfl) rfl rfl rfl .f (.c (.o (.t rfl)) (.c (.o (.t rfl)) (.c (.o (.t rfl)) (.c (.o (.t rfl)) (.c (.o (.t rfl)) .n))))) ?_
          intro v39
          show SOps ..
          refine sg rfl <| nq <| r_seq <| r_seq ?_
          obtain ⟨c42, hc42, ho⟩ := bnd ho
          refine r_cut (τ := (Bool)) (G := Unit) (fun t => (.normal, fun _ => ([(11, .raw v13), (13, .raw v39), (86, .val rBool (t))], [(v39, .row (rInt .i64) (y38)), (v13, .row (rInt .i64) (y12.1))]))) (t := c42) ?_ ?_
          · have ho := hc42
            clear hc42
            refine r_region <| mv rfl <| cmc rfl (by decide) .neq <| mv rfl ?_
            rcases Bool.eq_false_or_eq_true ((y12.2 != 0)) with hb43 | hb43
            · have ho := cnd1 ho hb43
              refine skg (gf1 hb43) rfl rfl <| skg (gf1 hb43) rfl rfl <| skg (gf1 hb43) rfl rfl <| skg (gf1 hb43) rfl rfl <| skg (gf1 hb43) rfl rfl <| pk1 hb43 rfl .b ?_
              cases ho
              exact s_nil (fun fr h s => And.intro rfl (Exists.intro () (s.pick [0, 1] ⟨rfl, rfl, rfl, trivial⟩ rfl (by decide))))
            · have ho := cnd0 ho hb43
              refine mvg (gf0 hb43) rfl rfl rfl <| s_leno 1 S63 (.g rfl rfl (gf0 hb43)) rfl rfl rfl rfl rfl (.t rfl) rfl <| mvg (gf0 hb43) rfl rfl rfl <| s_leno 0 S63 (.g rfl rfl (gf0 hb43)) rfl rfl rfl rfl rfl (.t rfl) rfl <| s_cmp (.g rfl rfl (gf0 hb43)) rfl rfl (.t rfl) (.t rfl) .neq <| pk0 hb43 rfl (.t rfl) ?_
              cases ho
              exact s_nil (fun fr h s => And.intro rfl (Exists.intro () (s.pick [0, 1] ⟨rfl, rfl, rfl, trivial⟩ rfl (by decide))))
          · intro _
            show SRun ..
            refine ct rfl (fun hq44 => ?_) (fun hq44 => ?_)
            · have ho := cnd1 ho hq44
              refine rr <| sgb <| nq ?_
              cases ho
              exact r_ret (ret_of (.inr rfl) (.v rfl .n) (by decide))
            · have ho := cnd0 ho hq44
              refine kq rfl <| r_seq <| rr <| sgc (by decide) <| nq <| r_block ?_
              obtain ⟨t55, ht55, ho⟩ := bnd ho
              refine r_loop (σ := (Int)) (τ := Unit ⊕ (Bool)) (G := List AVal) (fun s g => ([(11, .raw v13), (13, .raw v39), (14, .val (rInt .i64) (s))], [(v39, .row (rInt .i64) (y38)), (v13, .row (rInt .i64) (y12.1))])) (altX (fun b => (.exit 0, fun g => ([], []))) (fun b => (.ret, fun g => ([(10, .val rBool (b))], [])))) _ [] ht55 (fun fr h s => s.pick [0, 1] ⟨rfl, rfl, rfl, trivial⟩ rfl (by decide)) ?_ ?_ ?_
              · intro t
                rcases t with t | t
                · exact nx
                · exact nr
              · clear ho
                intro s49 g50 r56 ho
                refine r_seq <| rr <| mv rfl <| mv rfl <| s_leno 1 S63 (.n rfl) rfl rfl rfl rfl rfl (.t rfl) rfl <| cm rfl rfl .lss <| nq <| ct rfl (fun hq51 => ?_) (fun hq51 => ?_)
                · have ho := cnd1 ho hq51
                  refine kq rfl <| r_seq <| r_block <| r_seq ?_
                  refine r_draw [3, 7] (by kernel_rfl) ?_
                  refine mv rfl <| mv rfl ?_
                  obtain ⟨x52, hx52, ho⟩ := bnd ho
                  refine s_idxo 1 S63 hx52 (.n rfl) rfl rfl (.t rfl) rfl (.t rfl) <| s_loado 1 (fun _ h => by cases h <;> rfl) U68 FOk.self (idx_inv hx52).2.2.2 (.n rfl) rfl rfl (.t rfl) rfl <| mv rfl <| mv rfl ?_
                  obtain ⟨x53, hx53, ho⟩ := bnd ho
                  refine s_idxo 0 S63 hx53 (.n rfl) rfl rfl (.t rfl) rfl (.t rfl) <| s_loado 0 (fun _ h => by cases h <;> rfl) U68 FOk.self (idx_inv hx53).2.2.2 (.n rfl) rfl rfl (.t rfl) rfl <| cm rfl rfl .neq <| nq <| ct rfl (fun hq54 => ?_) (fun hq54 => ?_)
                  · have ho := cnd1 ho hq54
                    refine rr <| sgb <| nq ?_
                    cases ho
                    exact r_ret fun _ _ s => fz [] s ⟨rfl, trivial⟩ rfl
                  · have ho := cnd0 ho hq54
                    refine kq rfl <| r_region <| mv rfl <| arc rfl (by decide) .add <| sg rfl ?_
                    cases ho
                    exact s_nil (fun fr h s => And.intro rfl (Exists.intro [] (s.pick [0, 1] ⟨rfl, rfl, rfl, trivial⟩ rfl (by decide))))
                · have ho := cnd0 ho hq51
                  cases ho
                  exact r_exit fun _ _ s => fz [] s trivial rfl
              · clear ht55
                rcases t55 with b57 | b58
                · have ho := alt_l ho
                  intro g59
                  show ∀ fr h, St _ [] [] fr h → _
                  show SRun ..
                  refine rr ?_
                  obtain ⟨y60, hy60, ho⟩ := bnd ho
                  refine s_calll (g_law08_known_ok hy60) (.v flat_bool .n) rfl (.n rfl) rfl rfl rfl .f .n ?_
                  show SOps ..
                  refine sg rfl <| nq ?_
                  cases ho
                  exact r_ret (ret_of (.inr rfl) (.v rfl .n) (by decide))
                · have ho := alt_r ho
                  intro g61
                  show ∀ fr h, St _ [(10, .val rBool (b58))] [] fr h → _
                  cases ho
                  exact id (ret_of (.inr rfl) (.v rfl .n) (by decide))
end Go.Ai.TabYtdhenjdmpacklaa
