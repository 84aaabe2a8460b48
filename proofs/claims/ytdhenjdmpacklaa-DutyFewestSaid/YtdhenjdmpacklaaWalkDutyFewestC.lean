/- Written by program: walks through functions. -/
import Derived.Test.YtdhenjdmpacklaaWalkknownC
namespace Go.Ai.TabYtdhenjdmpacklaa
open Go Go.Ai Go.Ai.Sx Go.Proofs
attribute [local irreducible] SOps
set_option maxRecDepth 100000
theorem g_law08_few_ok {t_0 : (List Task)} {y_1 : Yard} {most_2 : Int} {out : (Bool)} (ho : g_law08_few t_0 y_1 most_2 = some out) : Fun ktab 12 [.val (rSlice rTask) t_0, .val rYard y_1, .val (rInt .i64) most_2] [.val rBool (out)] := by
 refine fun_of (F := Try.f12) (by rfl) (by rfl) (by rfl) (fun C hC => ?_)
 delta g_law08_few at ho
 refine rr <| bx rfl <| sgb <| nq <| r_seq <| r_seq ?_
 obtain ⟨c2, hc2, ho⟩ := bnd ho
 refine r_cut (τ := (Bool)) (G := Unit) (fun t => (.normal, fun _ => ([(0, .val (rSlice rTask) (t_0)), (2, .val (rInt .i64) (most_2)), (4, .val (rPtr rYard) (y_1)), (17, .val rBool (t))], []))) (t := c2) ?_ ?_
 ·have ho := hc2
  clear hc2
  refine r_region <| fa F26_2 fk_Yard_2 (by decide) rfl <| ld U24 rfl <| ln S24 rfl rfl rfl (.t rfl) <| cmc rfl (by decide) .gtr <| mv rfl ?_
  rcases Bool.eq_false_or_eq_true ((decide ((lenI y_1.2.2.1) > 50))) with hb3 | hb3
  ·have ho := cnd1 ho hb3
   refine skg (gf1 hb3) rfl rfl <| skg (gf1 hb3) rfl rfl <| skg (gf1 hb3) rfl rfl <| skg (gf1 hb3) rfl rfl <| pk1 hb3 rfl .b ?_
   cases ho
   exact s_nil fun _ _ s => fz () s ⟨rfl, rfl, rfl, rfl, trivial⟩ rfl
  ·have ho := cnd0 ho hb3
   refine s_fa F26_0 fk_Yard_0 (by decide) (.g rfl rfl (gf0 hb3)) rfl rfl (.t rfl) <| ldg U23 (gf0 hb3) rfl rfl rfl <| s_len S23 (.g rfl rfl (gf0 hb3)) rfl rfl rfl rfl rfl (.t rfl) <| s_cmp (.g rfl rfl (gf0 hb3)) rfl rfl (.t rfl) (.i (by decide) (by decide)) .gtr <| pk0 hb3 rfl (.t rfl) ?_
   cases ho
   exact s_nil fun _ _ s => fz () s ⟨rfl, rfl, rfl, rfl, trivial⟩ rfl
 ·intro _
  show SRun ..
  refine ct rfl (fun hq4 => ?_) (fun hq4 => ?_)
  ·have ho := cnd1 ho hq4
   refine rr <| sgb <| nq ?_
   cases ho
   exact r_ret (ret_of (.inr rfl) (.v rfl .n) (by decide))
  ·have ho := cnd0 ho hq4
   refine kq rfl <| r_seq <| rr <| sgc (by decide) <| nq <| r_block ?_
   obtain ⟨t13, ht13, ho⟩ := bnd ho
   refine r_loop (σ := (Int)) (τ := Unit ⊕ (Bool)) (G := List AVal) (fun s g => ([(0, .val (rSlice rTask) (t_0)), (2, .val (rInt .i64) (most_2)), (4, .val (rPtr rYard) (y_1)), (7, .val (rInt .i64) (s))], [])) (altX (fun b => (.exit 0, fun g => ([(0, .val (rSlice rTask) (t_0)), (2, .val (rInt .i64) (most_2))], []))) (fun b => (.ret, fun g => ([(6, .val rBool (b))], [])))) _ [] ht13 (fun fr h s => s.pick [] ⟨rfl, rfl, rfl, rfl, trivial⟩ rfl (by decide)) ?_ ?_ ?_
   ·intro t
    rcases t with t | t
    ·exact nx
    ·exact nr
   ·clear ho
    intro s8 g9 r14 ho
    refine r_seq <| rr <| mv rfl <| fa F26_0 fk_Yard_0 (by decide) rfl <| ld U23 rfl <| ln S23 rfl rfl rfl (.t rfl) <| cm rfl rfl .lss <| nq <| ct rfl (fun hq10 => ?_) (fun hq10 => ?_)
    ·have ho := cnd1 ho hq10
     refine kq rfl <| r_seq <| r_block <| rr <| fa F26_0 fk_Yard_0 (by decide) rfl <| ld U23 rfl <| mv rfl ?_
     obtain ⟨x11, hx11, ho⟩ := bnd ho
     refine ix S23 hx11 rfl rfl <| ld U29 rfl <| ln S29 rfl rfl rfl (.t rfl) <| cmc rfl (by decide) .gtr <| nq <| ct rfl (fun hq12 => ?_) (fun hq12 => ?_)
     ·have ho := cnd1 ho hq12
      refine rr <| sgb <| nq ?_
      cases ho
      exact r_ret fun _ _ s => fz [] s ⟨rfl, trivial⟩ rfl
     ·have ho := cnd0 ho hq12
      refine kq rfl <| r_region <| mv rfl <| arc rfl (by decide) .add <| sg rfl ?_
      cases ho
      exact s_nil fun _ _ s => fz [] s ⟨rfl, rfl, rfl, rfl, trivial⟩ rfl
    ·have ho := cnd0 ho hq10
     cases ho
     exact r_exit fun _ _ s => fz [] s ⟨rfl, rfl, trivial⟩ rfl
   ·clear ht13
    rcases t13 with b15 | b16
    ·have ho := alt_l ho
     intro g17
     show ∀ fr h, St _ [(0, .val (rSlice rTask) (t_0)), (2, .val (rInt .i64) (most_2))] [] fr h → _
     show SRun ..
     refine r_seq ?_
     obtain ⟨c20, hc20, ho⟩ := bnd ho
     refine r_cut (τ := (Bool)) (G := Unit) (fun t => (.normal, fun _ => ([(6, .val rBool (t))], []))) (t := c20) ?_ ?_
     ·have ho := hc20
      clear hc20
      refine r_region <| mv rfl <| ln S22 rfl rfl rfl (.t rfl) <| mv rfl <| cm rfl rfl .leq <| mv rfl ?_
      rcases Bool.eq_false_or_eq_true ((decide ((lenI t_0) ≤ most_2))) with hb21 | hb21
      ·have ho := cnd1 ho hb21
       refine skg (gf1 hb21) rfl rfl <| skg (gf1 hb21) rfl rfl <| skg (gf1 hb21) rfl rfl <| skg (gf1 hb21) rfl rfl <| sku rfl rfl <| sku rfl rfl <| sku rfl rfl <| skg (gf1 hb21) rfl rfl <| pk1 hb21 rfl .b <| sg rfl ?_
       cases ho
       exact s_nil fun _ _ s => fz () s ⟨rfl, trivial⟩ rfl
      ·have ho := cnd0 ho hb21
       refine mvg (gf0 hb21) rfl rfl rfl <| s_len S22 (.g rfl rfl (gf0 hb21)) rfl rfl rfl rfl rfl (.t rfl) <| s_cmp (.g rfl rfl (gf0 hb21)) rfl rfl (.t rfl) (.i (by decide) (by decide)) .gtr <| mvg (gf0 hb21) rfl rfl rfl ?_
       rcases Bool.eq_false_or_eq_true ((decide ((lenI t_0) > 60))) with hb22 | hb22
       ·have ho := cnd1 ho hb22
        refine mvg (gt1 hb22) rfl rfl rfl <| s_len S22 (.g rfl rfl (gt1 hb22)) rfl rfl rfl rfl rfl (.t rfl) <| s_cmp (.g rfl rfl (gt1 hb22)) rfl rfl (.t rfl) (.i (by decide) (by decide)) .lss <| s_pk1 hb22 (.g rfl rfl (gf0 hb21)) rfl rfl (.t rfl) (.t rfl) <| pk0 hb21 rfl (.t rfl) <| sg rfl ?_
        cases ho
        exact s_nil fun _ _ s => fz () s ⟨rfl, trivial⟩ rfl
       ·have ho := cnd0 ho hb22
        refine skg (gt0 hb22) rfl rfl <| skg (gt0 hb22) rfl rfl <| skg (gt0 hb22) rfl rfl <| s_pk0 hb22 (.g rfl rfl (gf0 hb21)) rfl rfl (.t rfl) .b <| pk0 hb21 rfl (.t rfl) <| sg rfl ?_
        cases ho
        exact s_nil fun _ _ s => fz () s ⟨rfl, trivial⟩ rfl
     ·intro _
      show SRun ..
      cases ho
      exact r_ret (ret_of (.inr rfl) (.v rfl .n) (by decide))
    ·have ho := alt_r ho
     intro g23
     show ∀ fr h, St _ [(6, .val rBool (b16))] [] fr h → _
     cases ho
     exact id (ret_of (.inr rfl) (.v rfl .n) (by decide))
theorem g_ref08_in_ok {x_0 : Int} {low_1 : Int} {high_2 : Int} {out : (Bool)} (ho : g_ref08_in x_0 low_1 high_2 = some out) : Fun ktab 42 [.val (rInt .i64) x_0, .val (rInt .i64) low_1, .val (rInt .i64) high_2] [.val rBool (out)] := by
 refine fun_of (F := Try.f42) (by rfl) (by rfl) (by rfl) (fun C hC => ?_)
 delta g_ref08_in at ho
 refine rr <| sgb <| nq <| r_seq ?_
 obtain ⟨c2, hc2, ho⟩ := bnd ho
 refine r_cut (τ := (Bool)) (G := Unit) (fun t => (.normal, fun _ => ([(6, .val rBool (t))], []))) (t := c2) ?_ ?_
 ·have ho := hc2
  clear hc2
  refine r_region <| mv rfl <| mv rfl <| cm rfl rfl .geq <| mv rfl ?_
  rcases Bool.eq_false_or_eq_true ((decide (x_0 ≥ low_1))) with hb3 | hb3
  ·have ho := cnd1 ho hb3
   refine mvg (gt1 hb3) rfl rfl rfl <| mvg (gt1 hb3) rfl rfl rfl <| s_cmp (.g rfl rfl (gt1 hb3)) rfl rfl (.t rfl) (.t rfl) .leq <| pk1 hb3 rfl (.t rfl) <| sg rfl ?_
   cases ho
   exact s_nil fun _ _ s => fz () s ⟨rfl, trivial⟩ rfl
  ·have ho := cnd0 ho hb3
   refine skg (gt0 hb3) rfl rfl <| skg (gt0 hb3) rfl rfl <| skg (gt0 hb3) rfl rfl <| pk0 hb3 rfl .b <| sg rfl ?_
   cases ho
   exact s_nil fun _ _ s => fz () s ⟨rfl, trivial⟩ rfl
 ·intro _
  show SRun ..
  cases ho
  exact r_ret (ret_of (.inr rfl) (.v rfl .n) (by decide))
theorem g_ref08_Fine_ok {p_0 : (List Task)} {p_1 : Yard} {out : (Bool)} (ho : g_ref08_Fine p_0 p_1 = some out) : Fun ktab 15 [.val (rSlice rTask) p_0, .val rYard p_1] [.val rBool (out)] := by
 refine fun_of (F := Try.f15) (by rfl) (by rfl) (by rfl) (fun C hC => ?_)
 delta g_ref08_Fine at ho
 refine rr <| bx rfl <| sgb <| nq <| rr <| fa F26_2 fk_Yard_2 (by decide) rfl <| ld U24 rfl <| ln S24 rfl rfl rfl (.t rfl) <| sg rfl <| nq <| r_seq <| r_seq ?_
 obtain ⟨c6, hc6, ho⟩ := bnd ho
 refine r_cut (τ := (Bool)) (G := Unit) (fun t => (.normal, fun _ => ([(0, .val (rSlice rTask) (p_0)), (3, .val (rPtr rYard) (p_1)), (5, .val (rInt .i64) ((lenI p_1.2.2.1))), (33, .val rBool (t))], []))) (t := c6) ?_ ?_
 ·have ho := hc6
  clear hc6
  refine r_region <| mv rfl ?_
  obtain ⟨y7, hy7, ho⟩ := bnd ho
  refine s_calll (g_ref08_in_ok hy7) (.v flat_bool .n) rfl (.n rfl) rfl rfl rfl .f (.c (.o (.t rfl)) (.c (.o (.i (by decide) (by decide))) (.c (.o (.i (by decide) (by decide))) .n))) ?_
  show SOps ..
  refine s_not (.n rfl) rfl rfl (.t rfl) <| mv rfl ?_
  rcases Bool.eq_false_or_eq_true ((!y7)) with hb8 | hb8
  ·have ho := cnd1 ho hb8
   refine skg (gf1 hb8) rfl rfl <| skg (gf1 hb8) rfl rfl <| skg (gf1 hb8) rfl rfl <| skg (gf1 hb8) rfl rfl <| skg (gf1 hb8) rfl rfl <| pk1 hb8 rfl .b <| mv rfl <| skg rfl rfl rfl <| skg rfl rfl rfl <| skg rfl rfl rfl <| skg rfl rfl rfl <| pt rfl .b <| mv rfl <| skg rfl rfl rfl <| skg rfl rfl rfl <| skg rfl rfl rfl <| pt rfl .b ?_
   cases ho
   exact s_nil fun _ _ s => fz () s ⟨rfl, rfl, rfl, rfl, trivial⟩ rfl
  ·have ho := cnd0 ho hb8
   refine s_fa F26_0 fk_Yard_0 (by decide) (.g rfl rfl (gf0 hb8)) rfl rfl (.t rfl) <| ldg U23 (gf0 hb8) rfl rfl rfl <| s_len S23 (.g rfl rfl (gf0 hb8)) rfl rfl rfl rfl rfl (.t rfl) <| mvg (gf0 hb8) rfl rfl rfl <| s_cmp (.g rfl rfl (gf0 hb8)) rfl rfl (.t rfl) (.t rfl) .neq <| pk0 hb8 rfl (.t rfl) <| mv rfl ?_
   rcases Bool.eq_false_or_eq_true (((lenI p_1.1) != (lenI p_1.2.2.1))) with hb9 | hb9
   ·have ho := cnd1 ho hb9
    refine skg (gf1 hb9) rfl rfl <| skg (gf1 hb9) rfl rfl <| skg (gf1 hb9) rfl rfl <| skg (gf1 hb9) rfl rfl <| pk1 hb9 rfl .b <| mv rfl <| skg rfl rfl rfl <| skg rfl rfl rfl <| skg rfl rfl rfl <| pt rfl .b ?_
    cases ho
    exact s_nil fun _ _ s => fz () s ⟨rfl, rfl, rfl, rfl, trivial⟩ rfl
   ·have ho := cnd0 ho hb9
    refine s_fa F26_1 fk_Yard_1 (by decide) (.g rfl rfl (gf0 hb9)) rfl rfl (.t rfl) <| ldg U3 (gf0 hb9) rfl rfl rfl ?_
    obtain ⟨y10, hy10, ho⟩ := bnd ho
    refine s_calll (g_ref08_in_ok hy10) (.v flat_bool .n) rfl (.g rfl rfl (gf0 hb9)) rfl rfl rfl .f (.c (.o (.t rfl)) (.c (.o (.i (by decide) (by decide))) (.c (.o (.i (by decide) (by decide))) .n))) ?_
    show SOps ..
    refine s_not (.g rfl rfl (gf0 hb9)) rfl rfl (.t rfl) <| pk0 hb9 rfl (.t rfl) <| mv rfl ?_
    rcases Bool.eq_false_or_eq_true ((!y10)) with hb11 | hb11
    ·have ho := cnd1 ho hb11
     refine skg (gf1 hb11) rfl rfl <| skg (gf1 hb11) rfl rfl <| skg (gf1 hb11) rfl rfl <| pk1 hb11 rfl .b ?_
     cases ho
     exact s_nil fun _ _ s => fz () s ⟨rfl, rfl, rfl, rfl, trivial⟩ rfl
    ·have ho := cnd0 ho hb11
     refine mvg (gf0 hb11) rfl rfl rfl <| s_len S22 (.g rfl rfl (gf0 hb11)) rfl rfl rfl rfl rfl (.t rfl) <| s_cmp (.g rfl rfl (gf0 hb11)) rfl rfl (.t rfl) (.i (by decide) (by decide)) .gtr <| pk0 hb11 rfl (.t rfl) ?_
     cases ho
     exact s_nil fun _ _ s => fz () s ⟨rfl, rfl, rfl, rfl, trivial⟩ rfl
 ·intro _
  show SRun ..
  refine ct rfl (fun hq12 => ?_) (fun hq12 => ?_)
  ·have ho := cnd1 ho hq12
   refine rr <| sgb <| nq ?_
   cases ho
   exact r_ret (ret_of (.inr rfl) (.v rfl .n) (by decide))
  ·have ho := cnd0 ho hq12
   refine kq rfl <| r_seq <| rr <| sgc (by decide) <| nq <| r_block ?_
   obtain ⟨t73, ht73, ho⟩ := bnd ho
   refine r_loop (σ := (Int)) (τ := Unit ⊕ (Bool)) (G := List AVal) (fun s g => ([(0, .val (rSlice rTask) (p_0)), (3, .val (rPtr rYard) (p_1)), (5, .val (rInt .i64) ((lenI p_1.2.2.1))), (6, .val (rInt .i64) (s))], [])) (altX (fun b => (.exit 0, fun g => ([(0, .val (rSlice rTask) (p_0)), (5, .val (rInt .i64) ((lenI p_1.2.2.1)))], []))) (fun b => (.ret, fun g => ([(4, .val rBool (b))], [])))) _ [] ht73 (fun fr h s => s.pick [] ⟨rfl, rfl, rfl, rfl, trivial⟩ rfl (by decide)) ?_ ?_ ?_
   ·intro t
    rcases t with t | t
    ·exact nx
    ·exact nr
   ·clear ho
    intro s42 g43 r74 ho
    refine r_seq <| rr <| mv rfl <| mv rfl <| cm rfl rfl .lss <| nq <| ct rfl (fun hq44 => ?_) (fun hq44 => ?_)
    ·have ho := cnd1 ho hq44
     refine kq rfl <| r_seq <| r_block <| r_seq <| rr <| fa F26_0 fk_Yard_0 (by decide) rfl <| ld U23 rfl <| mv rfl ?_
     obtain ⟨x49, hx49, ho⟩ := bnd ho
     refine ix S23 hx49 rfl rfl <| ld U29 rfl <| ln S29 rfl rfl rfl (.t rfl) <| mv rfl <| cm rfl rfl .neq <| mv rfl ?_
     rcases Bool.eq_false_or_eq_true (((lenI x49) != (lenI p_1.2.2.1))) with hb50 | hb50
     ·have ho := cnd1 ho hb50
      refine skg (gf1 hb50) rfl rfl <| skg (gf1 hb50) rfl rfl <| skg (gf1 hb50) rfl rfl <| skg (gf1 hb50) rfl rfl <| skg (gf1 hb50) rfl rfl <| skg (gf1 hb50) rfl rfl <| skg (gf1 hb50) rfl rfl <| skg (gf1 hb50) rfl rfl <| skg (gf1 hb50) rfl rfl <| pk1 hb50 rfl .b <| nq <| ct rfl (fun _ => ?_) (fun hq => by cases hq)
      refine rr <| sgb <| nq ?_
      cases ho
      exact r_ret fun _ _ s => fz [] s ⟨rfl, trivial⟩ rfl
     ·have ho := cnd0 ho hb50
      refine s_fa F26_0 fk_Yard_0 (by decide) (.g rfl rfl (gf0 hb50)) rfl rfl (.t rfl) <| ldg U23 (gf0 hb50) rfl rfl rfl <| mvg (gf0 hb50) rfl rfl rfl ?_
      obtain ⟨x52, hx52, ho⟩ := bnd ho
      refine s_idx S23 hx52 (.g rfl rfl (gf0 hb50)) rfl rfl (.t rfl) (.t rfl) <| ldg U29 (gf0 hb50) rfl rfl rfl <| mvg (gf0 hb50) rfl rfl rfl ?_
      obtain ⟨x53, hx53, ho⟩ := bnd ho
      refine s_idx S29 hx53 (.g rfl rfl (gf0 hb50)) rfl rfl (.t rfl) (.t rfl) <| ldg U3 (gf0 hb50) rfl rfl rfl <| s_cmp (.g rfl rfl (gf0 hb50)) rfl rfl (.t rfl) (.i (by decide) (by decide)) .neq <| pk0 hb50 rfl (.t rfl) <| nq <| ct rfl (fun hq54 => ?_) (fun hq54 => ?_)
      ·have ho := cnd1 ho hq54
       refine rr <| sgb <| nq ?_
       cases ho
       exact r_ret fun _ _ s => fz [] s ⟨rfl, trivial⟩ rfl
      ·have ho := cnd0 ho hq54
       refine kq rfl <| rr <| sgc (by decide) <| nq <| r_block ?_
       obtain ⟨t67, ht67, ho⟩ := bnd ho
       refine r_loop (σ := (Int)) (τ := Unit ⊕ (Bool)) (G := List AVal) (fun s g => ([(0, .val (rSlice rTask) (p_0)), (3, .val (rPtr rYard) (p_1)), (5, .val (rInt .i64) ((lenI p_1.2.2.1))), (6, .val (rInt .i64) (s42)), (7, .val (rInt .i64) (s)), (48, .val (rPtr (rSlice (rSlice (rInt .i64)))) (p_1.1)), (49, .val (rSlice (rSlice (rInt .i64))) (p_1.1)), (50, .val (rInt .i64) (s42)), (51, .val (rPtr (rSlice (rInt .i64))) (x52)), (52, .val (rSlice (rInt .i64)) (x52)), (53, .val (rInt .i64) (s42)), (54, .val (rPtr (rInt .i64)) (x53)), (55, .val (rInt .i64) (x53)), (56, .val rBool ((x53 != 0)))], [])) (altX (fun b => (.exit 2, fun g => ([(0, .val (rSlice rTask) (p_0)), (3, .val (rPtr rYard) (p_1)), (5, .val (rInt .i64) ((lenI p_1.2.2.1))), (6, .val (rInt .i64) (s42)), (48, .val (rPtr (rSlice (rSlice (rInt .i64)))) (p_1.1)), (49, .val (rSlice (rSlice (rInt .i64))) (p_1.1)), (50, .val (rInt .i64) (s42)), (51, .val (rPtr (rSlice (rInt .i64))) (x52)), (52, .val (rSlice (rInt .i64)) (x52)), (53, .val (rInt .i64) (s42)), (54, .val (rPtr (rInt .i64)) (x53)), (55, .val (rInt .i64) (x53)), (56, .val rBool ((x53 != 0)))], []))) (fun b => (.ret, fun g => ([(4, .val rBool (b))], [])))) _ [] ht67 (fun fr h s => s.pick [] ⟨rfl, rfl, rfl, rfl, rfl, rfl, rfl, rfl, rfl, rfl, rfl, rfl, rfl, rfl, trivial⟩ rfl (by decide)) ?_ ?_ ?_
       ·intro t
        rcases t with t | t
        ·exact nx
        ·exact nr
       ·clear ho
        intro s60 g61 r68 ho
        refine r_seq <| rr <| mv rfl <| mv rfl <| cm rfl rfl .lss <| nq <| ct rfl (fun hq62 => ?_) (fun hq62 => ?_)
        ·have ho := cnd1 ho hq62
         refine kq rfl <| r_seq <| r_block <| rr <| fa F26_0 fk_Yard_0 (by decide) rfl <| ld U23 rfl <| mv rfl ?_
         obtain ⟨x63, hx63, ho⟩ := bnd ho
         refine ix S23 hx63 rfl rfl <| ld U29 rfl <| mv rfl ?_
         obtain ⟨x64, hx64, ho⟩ := bnd ho
         refine ix S29 hx64 rfl rfl <| ld U3 rfl ?_
         obtain ⟨y65, hy65, ho⟩ := bnd ho
         refine s_calll (g_ref08_in_ok hy65) (.v flat_bool .n) rfl (.n rfl) rfl rfl rfl .f (.c (.o (.t rfl)) (.c (.o (.i (by decide) (by decide))) (.c (.o (.i (by decide) (by decide))) .n))) ?_
         show SOps ..
         refine s_not (.n rfl) rfl rfl (.t rfl) <| nq <| ct rfl (fun hq66 => ?_) (fun hq66 => ?_)
         ·have ho := cnd1 ho hq66
          refine rr <| sgb <| nq ?_
          cases ho
          exact r_ret fun _ _ s => fz [] s ⟨rfl, trivial⟩ rfl
         ·have ho := cnd0 ho hq66
          refine kq rfl <| r_region <| mv rfl <| arc rfl (by decide) .add <| sg rfl ?_
          cases ho
          exact s_nil fun _ _ s => fz [] s ⟨rfl, rfl, rfl, rfl, rfl, rfl, rfl, rfl, rfl, rfl, rfl, rfl, rfl, rfl, trivial⟩ rfl
        ·have ho := cnd0 ho hq62
         cases ho
         exact r_exit fun _ _ s => fz [] s ⟨rfl, rfl, rfl, rfl, rfl, rfl, rfl, rfl, rfl, rfl, rfl, rfl, rfl, trivial⟩ rfl
       ·clear ht67
        rcases t67 with b69 | b70
        ·have ho := alt_l ho
         intro g71
         show ∀ fr h, St _ [(0, .val (rSlice rTask) (p_0)), (3, .val (rPtr rYard) (p_1)), (5, .val (rInt .i64) ((lenI p_1.2.2.1))), (6, .val (rInt .i64) (s42)), (48, .val (rPtr (rSlice (rSlice (rInt .i64)))) (p_1.1)), (49, .val (rSlice (rSlice (rInt .i64))) (p_1.1)), (50, .val (rInt .i64) (s42)), (51, .val (rPtr (rSlice (rInt .i64))) (x52)), (52, .val (rSlice (rInt .i64)) (x52)), (53, .val (rInt .i64) (s42)), (54, .val (rPtr (rInt .i64)) (x53)), (55, .val (rInt .i64) (x53)), (56, .val rBool ((x53 != 0)))] [] fr h → _
         show SRun ..
         refine r_region <| mv rfl <| arc rfl (by decide) .add <| sg rfl ?_
         cases ho
         exact s_nil fun _ _ s => fz [] s ⟨rfl, rfl, rfl, rfl, trivial⟩ rfl
        ·have ho := alt_r ho
         intro g72
         show ∀ fr h, St _ [(4, .val rBool (b70))] [] fr h → _
         cases ho
         exact id fun _ _ s => fz [] s ⟨rfl, trivial⟩ rfl
    ·have ho := cnd0 ho hq44
     cases ho
     exact r_exit fun _ _ s => fz [] s ⟨rfl, rfl, trivial⟩ rfl
   ·clear ht73
    rcases t73 with b75 | b76
    ·have ho := alt_l ho
     intro g77
     show ∀ fr h, St _ [(0, .val (rSlice rTask) (p_0)), (5, .val (rInt .i64) ((lenI p_1.2.2.1)))] [] fr h → _
     show SRun ..
     refine r_seq <| rr <| sgc (by decide) <| nq <| r_block ?_
     obtain ⟨t138, ht138, ho⟩ := bnd ho
     refine r_loop (σ := (Int)) (τ := Unit ⊕ (Bool)) (G := List AVal) (fun s g => ([(0, .val (rSlice rTask) (p_0)), (5, .val (rInt .i64) ((lenI p_1.2.2.1))), (8, .val (rInt .i64) (s))], [])) (altX (fun b => (.exit 4, fun g => ([], []))) (fun b => (.ret, fun g => ([(4, .val rBool (b))], [])))) _ [] ht138 (fun fr h s => s.pick [] ⟨rfl, rfl, rfl, trivial⟩ rfl (by decide)) ?_ ?_ ?_
     ·intro t
      rcases t with t | t
      ·exact nx
      ·exact nr
     ·clear ho
      intro s107 g108 r139 ho
      refine r_seq <| rr <| mv rfl <| mv rfl <| ln S22 rfl rfl rfl (.t rfl) <| cm rfl rfl .lss <| nq <| ct rfl (fun hq109 => ?_) (fun hq109 => ?_)
      ·have ho := cnd1 ho hq109
       refine kq rfl <| r_seq <| r_block <| rr <| mv rfl <| mv rfl ?_
       obtain ⟨x110, hx110, ho⟩ := bnd ho
       refine ix S22 hx110 rfl rfl <| ld U87 rfl <| s_alloc (zv := .agg [.int .i64 0, .int .i64 0, .int .i64 0, .int .i64 0]) (es := [.val (rInt .i64) (0), .val (rInt .i64) (0), .val (rInt .i64) (0), .val (rInt .i64) (0)]) (by kernel_rfl) (fun _ => (okint (okint (okint (okint okn))))) rfl (.n rfl) rfl rfl ?_
       intro b111
       refine s_storebs 0 U87 rfl (c1 rfl (c1 rfl (c1 rfl (c1 rfl cells_unit)))) (by rfl) (.n rfl) rfl rfl (.t rfl) (.t rfl) (by rfl) <| s_st (st_freezeb (R := rTask) (a := x110) 0 [9] (c1 rfl (c1 rfl (c1 rfl (c1 rfl cells_unit)))) rfl rfl ⟨rfl, trivial⟩) ?_
       refine nq <| r_seq ?_
       refine r_draw [] (by kernel_rfl) ?_
       refine fa F87_0 fk_Task_0 (by decide) rfl <| ld U3 rfl <| mv rfl <| arc rfl (by decide) .sub ?_
       obtain ⟨y122, hy122, ho⟩ := bnd ho
       refine s_calll (g_ref08_in_ok hy122) (.v flat_bool .n) rfl (.n rfl) rfl rfl rfl .f (.c (.o (.t rfl)) (.c (.o (.i (by decide) (by decide))) (.c (.o (.t rfl)) .n))) ?_
       show SOps ..
       refine s_not (.n rfl) rfl rfl (.t rfl) <| mv rfl ?_
       rcases Bool.eq_false_or_eq_true ((!y122)) with hb123 | hb123
       ·have ho := cnd1 ho hb123
        refine skg (gf1 hb123) rfl rfl <| skg (gf1 hb123) rfl rfl <| skg (gf1 hb123) rfl rfl <| skg (gf1 hb123) rfl rfl <| skg (gf1 hb123) rfl rfl <| skg (gf1 hb123) rfl rfl <| pk1 hb123 rfl .b <| mv rfl <| skg rfl rfl rfl <| skg rfl rfl rfl <| skg rfl rfl rfl <| pt rfl .b <| mv rfl <| skg rfl rfl rfl <| skg rfl rfl rfl <| skg rfl rfl rfl <| skg rfl rfl rfl <| skg rfl rfl rfl <| pt rfl .b <| mv rfl <| skg rfl rfl rfl ?_
        refine skg rfl rfl rfl <| skg rfl rfl rfl <| pt rfl .b <| mv rfl <| skg rfl rfl rfl <| skg rfl rfl rfl <| skg rfl rfl rfl <| sku rfl rfl <| sku rfl rfl <| sku rfl rfl <| sku rfl rfl <| sku rfl rfl <| sku rfl rfl <| sku rfl rfl <| sku rfl rfl <| sku rfl rfl <| skg rfl rfl rfl <| pt rfl .b <| nq <| ct rfl (fun _ => ?_) (fun hq => by cases hq)
        refine rr <| sgb <| nq ?_
        cases ho
        exact r_ret fun _ _ s => fz [] s ⟨rfl, trivial⟩ rfl
       ·have ho := cnd0 ho hb123
        refine s_fa F87_1 fk_Task_1 (by decide) (.g rfl rfl (gf0 hb123)) rfl rfl (.t rfl) <| ldg U3 (gf0 hb123) rfl rfl rfl <| mvg (gf0 hb123) rfl rfl rfl <| s_ar (.g rfl rfl (gf0 hb123)) rfl rfl (.t rfl) (.i (by decide) (by decide)) .sub ?_
        obtain ⟨y125, hy125, ho⟩ := bnd ho
        refine s_calll (g_ref08_in_ok hy125) (.v flat_bool .n) rfl (.g rfl rfl (gf0 hb123)) rfl rfl rfl .f (.c (.o (.t rfl)) (.c (.o (.i (by decide) (by decide))) (.c (.o (.t rfl)) .n))) ?_
        show SOps ..
        refine s_not (.g rfl rfl (gf0 hb123)) rfl rfl (.t rfl) <| pk0 hb123 rfl (.t rfl) <| mv rfl ?_
        rcases Bool.eq_false_or_eq_true ((!y125)) with hb126 | hb126
        ·have ho := cnd1 ho hb126
         refine skg (gf1 hb126) rfl rfl <| skg (gf1 hb126) rfl rfl <| skg (gf1 hb126) rfl rfl <| pk1 hb126 rfl .b <| mv rfl <| skg rfl rfl rfl <| skg rfl rfl rfl <| skg rfl rfl rfl <| skg rfl rfl rfl <| skg rfl rfl rfl <| pt rfl .b <| mv rfl <| skg rfl rfl rfl <| skg rfl rfl rfl <| skg rfl rfl rfl <| pt rfl .b <| mv rfl <| skg rfl rfl rfl <| skg rfl rfl rfl <| skg rfl rfl rfl <| sku rfl rfl <| sku rfl rfl <| sku rfl rfl ?_
         refine sku rfl rfl <| sku rfl rfl <| sku rfl rfl <| sku rfl rfl <| sku rfl rfl <| sku rfl rfl <| skg rfl rfl rfl <| pt rfl .b <| nq <| ct rfl (fun _ => ?_) (fun hq => by cases hq)
         refine rr <| sgb <| nq ?_
         cases ho
         exact r_ret fun _ _ s => fz [] s ⟨rfl, trivial⟩ rfl
        ·have ho := cnd0 ho hb126
         refine s_fa F87_2 fk_Task_2 (by decide) (.g rfl rfl (gf0 hb126)) rfl rfl (.t rfl) <| ldg U3 (gf0 hb126) rfl rfl rfl <| s_cmp (.g rfl rfl (gf0 hb126)) rfl rfl (.t rfl) (.i (by decide) (by decide)) .lss <| pk0 hb126 rfl (.t rfl) <| mv rfl ?_
         rcases Bool.eq_false_or_eq_true ((decide (x110.2.2.1 < 0))) with hb128 | hb128
         ·have ho := cnd1 ho hb128
          refine skg (gf1 hb128) rfl rfl <| skg (gf1 hb128) rfl rfl <| skg (gf1 hb128) rfl rfl <| skg (gf1 hb128) rfl rfl <| skg (gf1 hb128) rfl rfl <| pk1 hb128 rfl .b <| mv rfl <| skg rfl rfl rfl <| skg rfl rfl rfl <| skg rfl rfl rfl <| pt rfl .b <| mv rfl <| skg rfl rfl rfl <| skg rfl rfl rfl <| skg rfl rfl rfl <| sku rfl rfl <| sku rfl rfl <| sku rfl rfl <| sku rfl rfl <| sku rfl rfl <| sku rfl rfl <| sku rfl rfl ?_
          refine sku rfl rfl <| sku rfl rfl <| skg rfl rfl rfl <| pt rfl .b <| nq <| ct rfl (fun _ => ?_) (fun hq => by cases hq)
          refine rr <| sgb <| nq ?_
          cases ho
          exact r_ret fun _ _ s => fz [] s ⟨rfl, trivial⟩ rfl
         ·have ho := cnd0 ho hb128
          refine s_fa F87_2 fk_Task_2 (by decide) (.g rfl rfl (gf0 hb128)) rfl rfl (.t rfl) <| ldg U3 (gf0 hb128) rfl rfl rfl <| s_fa F87_3 fk_Task_3 (by decide) (.g rfl rfl (gf0 hb128)) rfl rfl (.t rfl) <| ldg U3 (gf0 hb128) rfl rfl rfl <| s_cmp (.g rfl rfl (gf0 hb128)) rfl rfl (.t rfl) (.t rfl) .gtr <| pk0 hb128 rfl (.t rfl) <| mv rfl ?_
          rcases Bool.eq_false_or_eq_true ((decide (x110.2.2.1 > x110.2.2.2.1))) with hb130 | hb130
          ·have ho := cnd1 ho hb130
           refine skg (gf1 hb130) rfl rfl <| skg (gf1 hb130) rfl rfl <| skg (gf1 hb130) rfl rfl <| pk1 hb130 rfl .b <| mv rfl <| skg rfl rfl rfl <| skg rfl rfl rfl <| skg rfl rfl rfl <| sku rfl rfl <| sku rfl rfl <| sku rfl rfl <| sku rfl rfl <| sku rfl rfl <| sku rfl rfl <| sku rfl rfl <| sku rfl rfl <| sku rfl rfl <| skg rfl rfl rfl <| pt rfl .b <| nq <| ct rfl (fun _ => ?_) (fun hq => by cases hq)
           refine rr <| sgb <| nq ?_
           cases ho
           exact r_ret fun _ _ s => fz [] s ⟨rfl, trivial⟩ rfl
          ·have ho := cnd0 ho hb130
           refine s_fa F87_3 fk_Task_3 (by decide) (.g rfl rfl (gf0 hb130)) rfl rfl (.t rfl) <| ldg U3 (gf0 hb130) rfl rfl rfl <| s_cmp (.g rfl rfl (gf0 hb130)) rfl rfl (.t rfl) (.i (by decide) (by decide)) .gtr <| pk0 hb130 rfl (.t rfl) <| mv rfl ?_
           rcases Bool.eq_false_or_eq_true ((decide (x110.2.2.2.1 > 200000))) with hb132 | hb132
           ·have ho := cnd1 ho hb132
            refine skg (gf1 hb132) rfl rfl <| skg (gf1 hb132) rfl rfl <| skg (gf1 hb132) rfl rfl <| sku rfl rfl <| sku rfl rfl <| sku rfl rfl <| sku rfl rfl <| sku rfl rfl <| sku rfl rfl <| sku rfl rfl <| sku rfl rfl <| sku rfl rfl <| skg (gf1 hb132) rfl rfl <| pk1 hb132 rfl .b <| nq <| ct rfl (fun _ => ?_) (fun hq => by cases hq)
            refine rr <| sgb <| nq ?_
            cases ho
            exact r_ret fun _ _ s => fz [] s ⟨rfl, trivial⟩ rfl
           ·have ho := cnd0 ho hb132
            refine mvg (gf0 hb132) rfl rfl rfl <| s_cmp (.g rfl rfl (gf0 hb132)) rfl rfl (.t rfl) (.i (by decide) (by decide)) .gtr <| mvg (gf0 hb132) rfl rfl rfl ?_
            rcases Bool.eq_false_or_eq_true ((decide (s107 > 0))) with hb134 | hb134
            ·have ho := cnd1 ho hb134
             refine s_fa F87_2 fk_Task_2 (by decide) (.g rfl rfl (gt1 hb134)) rfl rfl (.t rfl) <| ldg U3 (gt1 hb134) rfl rfl rfl <| mvg (gt1 hb134) rfl rfl rfl <| mvg (gt1 hb134) rfl rfl rfl <| s_ar (.g rfl rfl (gt1 hb134)) rfl rfl (.t rfl) (.i (by decide) (by decide)) .sub ?_
             obtain ⟨x135, hx135, ho⟩ := bnd ho
             refine s_idx S22 hx135 (.g rfl rfl (gt1 hb134)) rfl rfl (.t rfl) (.t rfl) <| s_fa F87_2 fk_Task_2 (by decide) (.g rfl rfl (gt1 hb134)) rfl rfl (.t rfl) <| ldg U3 (gt1 hb134) rfl rfl rfl <| s_cmp (.g rfl rfl (gt1 hb134)) rfl rfl (.t rfl) (.t rfl) .lss <| s_pk1 hb134 (.g rfl rfl (gf0 hb132)) rfl rfl (.t rfl) (.t rfl) <| pk0 hb132 rfl (.t rfl) <| nq <| ct rfl (fun hq136 => ?_) (fun hq136 => ?_)
             ·have ho := cnd1 ho hq136
              refine rr <| sgb <| nq ?_
              cases ho
              exact r_ret fun _ _ s => fz [] s ⟨rfl, trivial⟩ rfl
             ·have ho := cnd0 ho hq136
              refine kq rfl <| r_region <| mv rfl <| arc rfl (by decide) .add <| sg rfl ?_
              cases ho
              exact s_nil fun _ _ s => fz [] s ⟨rfl, rfl, rfl, trivial⟩ rfl
            ·have ho := cnd0 ho hb134
             refine skg (gt0 hb134) rfl rfl <| skg (gt0 hb134) rfl rfl <| skg (gt0 hb134) rfl rfl <| skg (gt0 hb134) rfl rfl <| skg (gt0 hb134) rfl rfl <| skg (gt0 hb134) rfl rfl <| skg (gt0 hb134) rfl rfl <| skg (gt0 hb134) rfl rfl <| skg (gt0 hb134) rfl rfl <| s_pk0 hb134 (.g rfl rfl (gf0 hb132)) rfl rfl (.t rfl) .b <| pk0 hb132 rfl (.t rfl) <| nq <| ct rfl (fun hq => by cases hq) (fun _ => ?_)
             refine kq rfl <| r_region <| mv rfl <| arc rfl (by decide) .add <| sg rfl ?_
             cases ho
             exact s_nil fun _ _ s => fz [] s ⟨rfl, rfl, rfl, trivial⟩ rfl
      ·have ho := cnd0 ho hq109
       cases ho
       exact r_exit fun _ _ s => fz [] s trivial rfl
     ·clear ht138
      rcases t138 with b140 | b141
      ·have ho := alt_l ho
       intro g142
       show ∀ fr h, St _ [] [] fr h → _
       show SRun ..
       refine rr <| sgb <| nq ?_
       cases ho
       exact r_ret (ret_of (.inr rfl) (.v rfl .n) (by decide))
      ·have ho := alt_r ho
       intro g143
       show ∀ fr h, St _ [(4, .val rBool (b141))] [] fr h → _
       cases ho
       exact id (ret_of (.inr rfl) (.v rfl .n) (by decide))
    ·have ho := alt_r ho
     intro g144
     show ∀ fr h, St _ [(4, .val rBool (b76))] [] fr h → _
     cases ho
     exact id (ret_of (.inr rfl) (.v rfl .n) (by decide))
theorem g_ref08_Follows_ok {tasks_0 : (List Task)} {y_1 : Yard} {a_2 : Int} {b_3 : Int} {out : (Bool)} (ho : g_ref08_Follows tasks_0 y_1 a_2 b_3 = some out) : Fun ktab 31 [.val (rSlice rTask) tasks_0, .val rYard y_1, .val (rInt .i64) a_2, .val (rInt .i64) b_3] [.val rBool (out)] := by
 refine fun_of (F := Try.f31) (by rfl) (by rfl) (by rfl) (fun C hC => ?_)
 delta g_ref08_Follows at ho
 refine rr <| bx rfl <| sgb <| nq <| r_seq ?_
 refine r_draw [] (by kernel_rfl) ?_
 refine fa F26_0 fk_Yard_0 (by decide) rfl <| ld U23 rfl <| mv rfl <| mv rfl ?_
 obtain ⟨x1, hx1, ho⟩ := bnd ho
 refine ix S22 hx1 rfl rfl <| fa F87_1 fk_Task_1 (by decide) rfl <| ld U3 rfl ?_
 obtain ⟨x2, hx2, ho⟩ := bnd ho
 refine ix S23 hx2 rfl rfl <| ld U29 rfl <| mv rfl <| mv rfl ?_
 obtain ⟨x3, hx3, ho⟩ := bnd ho
 refine ix S22 hx3 rfl rfl <| fa F87_0 fk_Task_0 (by decide) rfl <| ld U3 rfl ?_
 obtain ⟨x4, hx4, ho⟩ := bnd ho
 refine ix S29 hx4 rfl rfl <| ld U3 rfl <| sg rfl <| nq <| r_seq ?_
 obtain ⟨c9, hc9, ho⟩ := bnd ho
 refine r_cut (τ := (Bool)) (G := Unit) (fun t => (.normal, fun _ => ([(8, .val rBool (t))], []))) (t := c9) ?_ ?_
 ·have ho := hc9
  clear hc9
  refine r_draw [] (by kernel_rfl) ?_
  refine mv rfl <| mv rfl <| cm rfl rfl .lss <| mv rfl ?_
  rcases Bool.eq_false_or_eq_true ((decide (a_2 < b_3))) with hb10 | hb10
  ·have ho := cnd1 ho hb10
   refine mvg (gt1 hb10) rfl rfl rfl <| s_cmp (.g rfl rfl (gt1 hb10)) rfl rfl (.t rfl) (.i (by decide) (by decide)) .geq <| pk1 hb10 rfl (.t rfl) <| mv rfl ?_
   rcases Bool.eq_false_or_eq_true ((decide (x4 ≥ 0))) with hb11 | hb11
   ·have ho := cnd1 ho hb11
    refine mvg (gt1 hb11) rfl rfl rfl <| mvg (gt1 hb11) rfl rfl rfl ?_
    obtain ⟨x12, hx12, ho⟩ := bnd ho
    refine s_idx S22 hx12 (.g rfl rfl (gt1 hb11)) rfl rfl (.t rfl) (.t rfl) <| s_fa F87_3 fk_Task_3 (by decide) (.g rfl rfl (gt1 hb11)) rfl rfl (.t rfl) <| ldg U3 (gt1 hb11) rfl rfl rfl <| s_fa F26_1 fk_Yard_1 (by decide) (.g rfl rfl (gt1 hb11)) rfl rfl (.t rfl) <| ldg U3 (gt1 hb11) rfl rfl rfl <| s_ar (.g rfl rfl (gt1 hb11)) rfl rfl (.t rfl) (.t rfl) .add <| mvg (gt1 hb11) rfl rfl rfl <| s_ar (.g rfl rfl (gt1 hb11)) rfl rfl (.t rfl) (.t rfl) .add ?_
    refine mvg (gt1 hb11) rfl rfl rfl <| mvg (gt1 hb11) rfl rfl rfl ?_
    obtain ⟨x13, hx13, ho⟩ := bnd ho
    refine s_idx S22 hx13 (.g rfl rfl (gt1 hb11)) rfl rfl (.t rfl) (.t rfl) <| s_fa F87_2 fk_Task_2 (by decide) (.g rfl rfl (gt1 hb11)) rfl rfl (.t rfl) <| ldg U3 (gt1 hb11) rfl rfl rfl <| s_cmp (.g rfl rfl (gt1 hb11)) rfl rfl (.t rfl) (.t rfl) .leq <| pk1 hb11 rfl (.t rfl) <| sg rfl ?_
    cases ho
    exact s_nil fun _ _ s => fz () s ⟨rfl, trivial⟩ rfl
   ·have ho := cnd0 ho hb11
    refine skg (gt0 hb11) rfl rfl <| skg (gt0 hb11) rfl rfl <| skg (gt0 hb11) rfl rfl <| skg (gt0 hb11) rfl rfl <| skg (gt0 hb11) rfl rfl <| skg (gt0 hb11) rfl rfl <| skg (gt0 hb11) rfl rfl <| skg (gt0 hb11) rfl rfl <| skg (gt0 hb11) rfl rfl <| skg (gt0 hb11) rfl rfl <| skg (gt0 hb11) rfl rfl <| skg (gt0 hb11) rfl rfl <| skg (gt0 hb11) rfl rfl <| skg (gt0 hb11) rfl rfl <| skg (gt0 hb11) rfl rfl <| skg (gt0 hb11) rfl rfl ?_
    refine pk0 hb11 rfl .b <| sg rfl ?_
    cases ho
    exact s_nil fun _ _ s => fz () s ⟨rfl, trivial⟩ rfl
  ·have ho := cnd0 ho hb10
   refine skg (gt0 hb10) rfl rfl <| skg (gt0 hb10) rfl rfl <| pk0 hb10 rfl .b <| mv rfl <| skg rfl rfl rfl <| skg rfl rfl rfl <| skg rfl rfl rfl <| skg rfl rfl rfl <| skg rfl rfl rfl <| skg rfl rfl rfl <| skg rfl rfl rfl <| skg rfl rfl rfl <| skg rfl rfl rfl <| skg rfl rfl rfl <| skg rfl rfl rfl <| skg rfl rfl rfl <| skg rfl rfl rfl <| skg rfl rfl rfl <| skg rfl rfl rfl <| skg rfl rfl rfl <| s_pick0 (.n rfl) rfl rfl (.t rfl) .b ?_
   refine sg rfl ?_
   cases ho
   exact s_nil fun _ _ s => fz () s ⟨rfl, trivial⟩ rfl
 ·intro _
  show SRun ..
  cases ho
  exact r_ret (ret_of (.inr rfl) (.v rfl .n) (by decide))
theorem g_ref08_Plan_ok {p_0 : (List Task)} {p_1 : Yard} {p_2 : (List (List Int))} {out : (Bool)} (ho : g_ref08_Plan p_0 p_1 p_2 = some out) : Fun ktab 23 [.val (rSlice rTask) p_0, .val rYard p_1, .val (rSlice (rSlice (rInt .i64))) p_2] [.val rBool (out)] := by
 refine fun_of (F := Try.f23) (by rfl) (by rfl) (by rfl) (fun C hC => ?_)
 delta g_ref08_Plan at ho
 refine rr <| bx rfl <| sgb <| nq <| rr <| mv rfl <| ln S22 rfl rfl rfl (.t rfl) ?_
 obtain ⟨x1, hx1, ho⟩ := bnd ho
 refine s_mk S24 Y4 Z4 hx1 (.n rfl) rfl rfl (.t rfl) (.t rfl) ?_
 intro v2
 refine sg rfl <| nq <| rr <| sgc (by decide) <| nq <| r_seq <| rr <| sgc (by decide) <| nq <| r_block ?_
 obtain ⟨t309, ht309, ho⟩ := bnd ho
 refine r_loop (σ := (Int × Int × (List Bool))) (τ := (Int × (List Bool)) ⊕ (Bool)) (G := List AVal) (fun s g => ([(0, .val (rSlice rTask) (p_0)), (2, .val (rSlice (rSlice (rInt .i64))) (p_2)), (4, .val (rPtr rYard) (p_1)), (7, .raw v2), (8, .val (rInt .i64) (s.1)), (9, .val (rInt .i64) (s.2.1))], [(v2, .row rBool (s.2.2))])) (altX (fun b => (.exit 0, fun g => ([(0, .val (rSlice rTask) (p_0)), (8, .val (rInt .i64) (b.1))], []))) (fun b => (.ret, fun g => ([(6, .val rBool (b))], [])))) _ [] ht309 (fun fr h s => s.pick [0] ⟨rfl, rfl, rfl, rfl, rfl, rfl, trivial⟩ rfl (by decide)) ?_ ?_ ?_
 ·intro t
  rcases t with t | t
  ·exact nx
  ·exact nr
 ·clear ho
  intro s206 g207 r310 ho
  refine r_seq <| rr <| mv rfl <| mv rfl <| ln S23 rfl rfl rfl (.t rfl) <| cm rfl rfl .lss <| nq <| ct rfl (fun hq208 => ?_) (fun hq208 => ?_)
  ·have ho := cnd1 ho hq208
   refine kq rfl <| r_seq <| r_block <| r_seq <| rr <| mv rfl <| mv rfl ?_
   obtain ⟨x209, hx209, ho⟩ := bnd ho
   refine ix S23 hx209 rfl rfl <| ld U29 rfl <| ln S29 rfl rfl rfl (.t rfl) <| cmc rfl (by decide) .eql <| nq <| ct rfl (fun hq210 => ?_) (fun hq210 => ?_)
   ·have ho := cnd1 ho hq210
    refine rr <| sgb <| nq ?_
    cases ho
    exact r_ret fun _ _ s => fz [] s ⟨rfl, trivial⟩ rfl
   ·have ho := cnd0 ho hq210
    refine kq rfl <| r_seq <| rr <| sgc (by decide) <| nq <| r_block ?_
    obtain ⟨t291, ht291, ho⟩ := bnd ho
    refine r_loop (σ := (Int × Int × (List Bool))) (τ := (Int × (List Bool)) ⊕ (Bool × (List Bool))) (G := List AVal) (fun s g => ([(0, .val (rSlice rTask) (p_0)), (2, .val (rSlice (rSlice (rInt .i64))) (p_2)), (4, .val (rPtr rYard) (p_1)), (7, .raw v2), (8, .val (rInt .i64) (s.1)), (9, .val (rInt .i64) (s206.2.1)), (10, .val (rInt .i64) (s.2.1))], [(v2, .row rBool (s.2.2))])) (altX (fun b => (.exit 2, fun g => ([(0, .val (rSlice rTask) (p_0)), (2, .val (rSlice (rSlice (rInt .i64))) (p_2)), (4, .val (rPtr rYard) (p_1)), (7, .raw v2), (8, .val (rInt .i64) (b.1)), (9, .val (rInt .i64) (s206.2.1))], [(v2, .row rBool (b.2))]))) (fun b => (.ret, fun g => ([(6, .val rBool (b.1))], [])))) _ [] ht291 (fun fr h s => s.pick [0] ⟨rfl, rfl, rfl, rfl, rfl, rfl, rfl, trivial⟩ rfl (by decide)) ?_ ?_ ?_
    ·intro t
     rcases t with t | t
     ·exact nx
     ·exact nr
    ·clear ho
     intro s263 g264 r292 ho
     refine r_seq <| rr <| mv rfl <| mv rfl <| mv rfl ?_
     obtain ⟨x265, hx265, ho⟩ := bnd ho
     refine ix S23 hx265 rfl rfl <| ld U29 rfl <| ln S29 rfl rfl rfl (.t rfl) <| cm rfl rfl .lss <| nq <| ct rfl (fun hq266 => ?_) (fun hq266 => ?_)
     ·have ho := cnd1 ho hq266
      refine kq rfl <| r_seq <| r_block <| rr <| mv rfl <| mv rfl ?_
      obtain ⟨x267, hx267, ho⟩ := bnd ho
      refine ix S23 hx267 rfl rfl <| ld U29 rfl <| mv rfl ?_
      obtain ⟨x268, hx268, ho⟩ := bnd ho
      refine ix S29 hx268 rfl rfl <| ld U3 rfl <| sg rfl <| nq <| r_seq <| r_seq ?_
      refine r_draw [10] (by kernel_rfl) ?_
      refine mv rfl <| mv rfl <| ln S22 rfl rfl rfl (.t rfl) <| arc rfl (by decide) .sub ?_
      obtain ⟨y277, hy277, ho⟩ := bnd ho
      refine s_calll (g_ref08_in_ok hy277) (.v flat_bool .n) rfl (.n rfl) rfl rfl rfl .f (.c (.o (.t rfl)) (.c (.o (.i (by decide) (by decide))) (.c (.o (.t rfl)) .n))) ?_
      show SOps ..
      refine s_not (.n rfl) rfl rfl (.t rfl) <| mv rfl ?_
      rcases Bool.eq_false_or_eq_true ((!y277)) with hb278 | hb278
      ·have ho := cnd1 ho hb278
       refine skg (gf1 hb278) rfl rfl <| skg (gf1 hb278) rfl rfl <| skg (gf1 hb278) rfl rfl <| skg (gf1 hb278) rfl rfl <| pk1 hb278 rfl .b <| mv rfl <| skg rfl rfl rfl <| skg rfl rfl rfl <| skg rfl rfl rfl <| sku rfl rfl <| sku rfl rfl <| sku rfl rfl <| sku rfl rfl <| sku rfl rfl <| sku rfl rfl <| sku rfl rfl <| sku rfl rfl <| sku rfl rfl <| sku rfl rfl <| sku rfl rfl <| sku rfl rfl <| sku rfl rfl <| skg rfl rfl rfl ?_
       refine pt rfl .b <| nq <| ct rfl (fun _ => ?_) (fun hq => by cases hq)
       refine rr <| sgb <| nq ?_
       cases ho
       exact r_ret fun _ _ s => fz [] s ⟨rfl, trivial⟩ rfl
      ·have ho := cnd0 ho hb278
       refine mvg (gf0 hb278) rfl rfl rfl <| mvg (gf0 hb278) rfl rfl rfl ?_
       obtain ⟨x280, hx280, ho⟩ := bnd ho
       refine s_idxo 0 S24 hx280 (.g rfl rfl (gf0 hb278)) rfl rfl (.t rfl) rfl (.t rfl) <| s_loado 0 (fun _ h => by cases h <;> rfl) U4 FOk.self (idx_inv hx280).2.2.2 (.g rfl rfl (gf0 hb278)) rfl rfl (.t rfl) rfl <| pk0 hb278 rfl (.t rfl) <| mv rfl ?_
       rcases Bool.eq_false_or_eq_true (x280) with hb281 | hb281
       ·have ho := cnd1 ho hb281
        refine skg (gf1 hb281) rfl rfl <| skg (gf1 hb281) rfl rfl <| skg (gf1 hb281) rfl rfl <| sku rfl rfl <| sku rfl rfl <| sku rfl rfl <| sku rfl rfl <| sku rfl rfl <| sku rfl rfl <| sku rfl rfl <| sku rfl rfl <| sku rfl rfl <| sku rfl rfl <| sku rfl rfl <| sku rfl rfl <| sku rfl rfl <| skg (gf1 hb281) rfl rfl <| pk1 hb281 rfl .b <| nq <| ct rfl (fun _ => ?_) (fun hq => by cases hq)
        refine rr <| sgb <| nq ?_
        cases ho
        exact r_ret fun _ _ s => fz [] s ⟨rfl, trivial⟩ rfl
       ·have ho := cnd0 ho hb281
        refine mvg (gf0 hb281) rfl rfl rfl <| s_cmp (.g rfl rfl (gf0 hb281)) rfl rfl (.t rfl) (.i (by decide) (by decide)) .gtr <| mvg (gf0 hb281) rfl rfl rfl ?_
        rcases Bool.eq_false_or_eq_true ((decide (s263.2.1 > 0))) with hb283 | hb283
        ·have ho := cnd1 ho hb283
         refine mvg (gt1 hb283) rfl rfl rfl <| ldg U26 (gt1 hb283) rfl rfl rfl <| mvg (gt1 hb283) rfl rfl rfl <| mvg (gt1 hb283) rfl rfl rfl ?_
         obtain ⟨x284, hx284, ho⟩ := bnd ho
         refine s_idx S23 hx284 (.g rfl rfl (gt1 hb283)) rfl rfl (.t rfl) (.t rfl) <| ldg U29 (gt1 hb283) rfl rfl rfl <| mvg (gt1 hb283) rfl rfl rfl <| s_ar (.g rfl rfl (gt1 hb283)) rfl rfl (.t rfl) (.i (by decide) (by decide)) .sub ?_
         obtain ⟨x285, hx285, ho⟩ := bnd ho
         refine s_idx S29 hx285 (.g rfl rfl (gt1 hb283)) rfl rfl (.t rfl) (.t rfl) <| ldg U3 (gt1 hb283) rfl rfl rfl <| mvg (gt1 hb283) rfl rfl rfl ?_
         obtain ⟨y286, hy286, ho⟩ := bnd ho
         refine s_calll (g_ref08_Follows_ok hy286) (.v flat_bool .n) rfl (.g rfl rfl (gt1 hb283)) rfl rfl rfl .f (.c (.o (.t rfl)) (.c (.o (.t rfl)) (.c (.o (.t rfl)) (.c (.o (.t rfl)) .n)))) ?_
         show SOps ..
         refine s_not (.g rfl rfl (gt1 hb283)) rfl rfl (.t rfl) <| s_pk1 hb283 (.g rfl rfl (gf0 hb281)) rfl rfl (.t rfl) (.t rfl) <| pk0 hb281 rfl (.t rfl) <| nq <| ct rfl (fun hq287 => ?_) (fun hq287 => ?_)
         ·have ho := cnd1 ho hq287
          refine rr <| sgb <| nq ?_
          cases ho
          exact r_ret fun _ _ s => fz [] s ⟨rfl, trivial⟩ rfl
         ·have ho := cnd0 ho hq287
          refine kq rfl <| rr <| mv rfl <| mv rfl ?_
          obtain ⟨x288, hx288, ho⟩ := bnd ho
          refine s_idxo 0 S24 hx288 (.n rfl) rfl rfl (.t rfl) rfl (.t rfl) <| s_storeo 0 U4 FOk.self (idx_inv hx288).2.2.2 (.n rfl) rfl rfl (.t rfl) .b rfl rfl <| nq <| r_region <| mv rfl <| arc rfl (by decide) .add <| sg rfl <| nq <| r_region <| mv rfl <| arc rfl (by decide) .add <| sg rfl ?_
          cases ho
          exact s_nil (fun fr h s => And.intro rfl (Exists.intro [] (s.pick [0] ⟨rfl, rfl, rfl, rfl, rfl, rfl, rfl, trivial⟩ rfl (by decide))))
        ·have ho := cnd0 ho hb283
         refine skg (gt0 hb283) rfl rfl <| skg (gt0 hb283) rfl rfl <| skg (gt0 hb283) rfl rfl <| skg (gt0 hb283) rfl rfl <| skg (gt0 hb283) rfl rfl <| skg (gt0 hb283) rfl rfl <| skg (gt0 hb283) rfl rfl <| skg (gt0 hb283) rfl rfl <| skg (gt0 hb283) rfl rfl <| skg (gt0 hb283) rfl rfl <| skg (gt0 hb283) rfl rfl <| skg (gt0 hb283) rfl rfl <| skg (gt0 hb283) rfl rfl <| s_pk0 hb283 (.g rfl rfl (gf0 hb281)) rfl rfl (.t rfl) .b ?_
         refine pk0 hb281 rfl (.t rfl) <| nq <| ct rfl (fun hq => by cases hq) (fun _ => ?_)
         refine kq rfl <| rr <| mv rfl <| mv rfl ?_
         obtain ⟨x290, hx290, ho⟩ := bnd ho
         refine s_idxo 0 S24 hx290 (.n rfl) rfl rfl (.t rfl) rfl (.t rfl) <| s_storeo 0 U4 FOk.self (idx_inv hx290).2.2.2 (.n rfl) rfl rfl (.t rfl) .b rfl rfl <| nq <| r_region <| mv rfl <| arc rfl (by decide) .add <| sg rfl <| nq <| r_region <| mv rfl <| arc rfl (by decide) .add <| sg rfl ?_
         cases ho
         exact s_nil (fun fr h s => And.intro rfl (Exists.intro [] (s.pick [0] ⟨rfl, rfl, rfl, rfl, rfl, rfl, rfl, trivial⟩ rfl (by decide))))
     ·have ho := cnd0 ho hq266
      cases ho
      exact r_exit (fun fr h s => And.intro rfl (Exists.intro [] (s.pick [0] ⟨rfl, rfl, rfl, rfl, rfl, rfl, trivial⟩ rfl (by decide))))
    ·clear ht291
     rcases t291 with b293 | b294
     ·have ho := alt_l ho
      intro g295
      show ∀ fr h, St _ [(0, .val (rSlice rTask) (p_0)), (2, .val (rSlice (rSlice (rInt .i64))) (p_2)), (4, .val (rPtr rYard) (p_1)), (7, .raw v2), (8, .val (rInt .i64) (b293.1)), (9, .val (rInt .i64) (s206.2.1))] [(v2, .row rBool (b293.2))] fr h → _
      show SRun ..
      refine r_seq ?_
      refine r_draw [] (by kernel_rfl) ?_
      refine mv rfl <| cmc rfl (by decide) .gtr <| mv rfl ?_
      rcases Bool.eq_false_or_eq_true ((decide (s206.2.1 > 0))) with hb301 | hb301
      ·have ho := cnd1 ho hb301
       refine mvg (gt1 hb301) rfl rfl rfl <| mvg (gt1 hb301) rfl rfl rfl ?_
       obtain ⟨x302, hx302, ho⟩ := bnd ho
       refine s_idx S23 hx302 (.g rfl rfl (gt1 hb301)) rfl rfl (.t rfl) (.t rfl) <| ldg U29 (gt1 hb301) rfl rfl rfl ?_
       obtain ⟨x303, hx303, ho⟩ := bnd ho
       refine s_idx S29 hx303 (.g rfl rfl (gt1 hb301)) rfl rfl (.t rfl) (.i (by decide) (by decide)) <| ldg U3 (gt1 hb301) rfl rfl rfl <| mvg (gt1 hb301) rfl rfl rfl <| mvg (gt1 hb301) rfl rfl rfl <| s_ar (.g rfl rfl (gt1 hb301)) rfl rfl (.t rfl) (.i (by decide) (by decide)) .sub ?_
       obtain ⟨x304, hx304, ho⟩ := bnd ho
       refine s_idx S23 hx304 (.g rfl rfl (gt1 hb301)) rfl rfl (.t rfl) (.t rfl) <| ldg U29 (gt1 hb301) rfl rfl rfl ?_
       obtain ⟨x305, hx305, ho⟩ := bnd ho
       refine s_idx S29 hx305 (.g rfl rfl (gt1 hb301)) rfl rfl (.t rfl) (.i (by decide) (by decide)) <| ldg U3 (gt1 hb301) rfl rfl rfl <| s_cmp (.g rfl rfl (gt1 hb301)) rfl rfl (.t rfl) (.t rfl) .leq <| pk1 hb301 rfl (.t rfl) <| nq <| ct rfl (fun hq306 => ?_) (fun hq306 => ?_)
       ·have ho := cnd1 ho hq306
        refine rr <| sgb <| nq ?_
        cases ho
        exact r_ret fun _ _ s => fz [] s ⟨rfl, trivial⟩ rfl
       ·have ho := cnd0 ho hq306
        refine kq rfl <| r_region <| mv rfl <| arc rfl (by decide) .add <| sg rfl ?_
        cases ho
        exact s_nil (fun fr h s => And.intro rfl (Exists.intro [] (s.pick [0] ⟨rfl, rfl, rfl, rfl, rfl, rfl, trivial⟩ rfl (by decide))))
      ·have ho := cnd0 ho hb301
       refine skg (gt0 hb301) rfl rfl <| skg (gt0 hb301) rfl rfl <| skg (gt0 hb301) rfl rfl <| skg (gt0 hb301) rfl rfl <| skg (gt0 hb301) rfl rfl <| skg (gt0 hb301) rfl rfl <| skg (gt0 hb301) rfl rfl <| skg (gt0 hb301) rfl rfl <| skg (gt0 hb301) rfl rfl <| skg (gt0 hb301) rfl rfl <| skg (gt0 hb301) rfl rfl <| skg (gt0 hb301) rfl rfl <| skg (gt0 hb301) rfl rfl <| skg (gt0 hb301) rfl rfl <| pk0 hb301 rfl .b <| nq ?_
       refine ct rfl (fun hq => by cases hq) (fun _ => ?_)
       refine kq rfl <| r_region <| mv rfl <| arc rfl (by decide) .add <| sg rfl ?_
       cases ho
       exact s_nil (fun fr h s => And.intro rfl (Exists.intro [] (s.pick [0] ⟨rfl, rfl, rfl, rfl, rfl, rfl, trivial⟩ rfl (by decide))))
     ·have ho := alt_r ho
      intro g308
      show ∀ fr h, St _ [(6, .val rBool (b294.1))] [] fr h → _
      cases ho
      exact id fun _ _ s => fz [] s ⟨rfl, trivial⟩ rfl
  ·have ho := cnd0 ho hq208
   cases ho
   exact r_exit fun _ _ s => fz [] s ⟨rfl, rfl, trivial⟩ rfl
 ·clear ht309
  rcases t309 with b311 | b312
  ·have ho := alt_l ho
   intro g313
   show ∀ fr h, St _ [(0, .val (rSlice rTask) (p_0)), (8, .val (rInt .i64) (b311.1))] [] fr h → _
   show SRun ..
   refine rr <| mv rfl <| mv rfl <| ln S22 rfl rfl rfl (.t rfl) <| cm rfl rfl .eql <| sg rfl <| nq ?_
   cases ho
   exact r_ret (ret_of (.inr rfl) (.v rfl .n) (by decide))
  ·have ho := alt_r ho
   intro g314
   show ∀ fr h, St _ [(6, .val rBool (b312))] [] fr h → _
   cases ho
   exact id (ret_of (.inr rfl) (.v rfl .n) (by decide))
theorem g_duty_rising_ok {l_0 : (List Int)} {n_1 : Int} {out : (Bool)} (ho : g_duty_rising l_0 n_1 = some out) : Fun ktab 56 [.val (rSlice (rInt .i64)) l_0, .val (rInt .i64) n_1] [.val rBool (out)] := by
 refine fun_of (F := Try.f56) (by rfl) (by rfl) (by rfl) (fun C hC => ?_)
 delta g_duty_rising at ho
 refine rr <| sgb <| nq <| r_seq <| rr <| mv rfl <| ln S29 rfl rfl rfl (.t rfl) <| mvc (by decide) <| nq <| r_block ?_
 obtain ⟨t29, ht29, ho⟩ := bnd ho
 refine r_loop (σ := (Int)) (τ := Unit ⊕ (Bool)) (G := List AVal) (fun s g => ([(0, .val (rSlice (rInt .i64)) (l_0)), (1, .val (rInt .i64) (n_1)), (7, .val (rSlice (rInt .i64)) (l_0)), (8, .val (rInt .i64) ((lenI l_0))), (9, .val (rInt .i64) (s))], [])) (altX (fun b => (.exit 0, fun g => ([], []))) (fun b => (.ret, fun g => ([(4, .val rBool (b))], [])))) _ [] ht29 (fun fr h s => s.pick [] ⟨rfl, rfl, rfl, rfl, rfl, trivial⟩ rfl (by decide)) ?_ ?_ ?_
 ·intro t
  rcases t with t | t
  ·exact nx
  ·exact nr
 ·clear ho
  intro s14 g15 r30 ho
  refine rr <| cm rfl rfl .lss <| nq <| r_seq <| ct rfl (fun hq16 => ?_) (fun hq16 => ?_)
  ·have ho := cnd1 ho hq16
   refine kq rfl <| r_seq <| r_block <| rr <| mv rfl ?_
   obtain ⟨x17, hx17, ho⟩ := bnd ho
   refine ix S29 hx17 rfl rfl <| ld U3 rfl <| sg rfl <| sg rfl <| nq <| rr <| mv rfl <| mv rfl <| arc rfl (by decide) .sub ?_
   obtain ⟨y22, hy22, ho⟩ := bnd ho
   refine s_calll (g_duty_within_ok hy22) (.v flat_bool .n) rfl (.n rfl) rfl rfl rfl .f (.c (.o (.t rfl)) (.c (.o (.i (by decide) (by decide))) (.c (.o (.t rfl)) .n))) ?_
   show SOps ..
   refine s_not (.n rfl) rfl rfl (.t rfl) <| mv rfl ?_
   rcases Bool.eq_false_or_eq_true ((!y22)) with hb23 | hb23
   ·have ho := cnd1 ho hb23
    refine skg (gf1 hb23) rfl rfl <| skg (gf1 hb23) rfl rfl <| skg (gf1 hb23) rfl rfl <| sku rfl rfl <| sku rfl rfl <| sku rfl rfl <| sku rfl rfl <| sku rfl rfl <| sku rfl rfl <| sku rfl rfl <| skg (gf1 hb23) rfl rfl <| pk1 hb23 rfl .b <| nq <| ct rfl (fun _ => ?_) (fun hq => by cases hq)
    refine rr <| sgb <| nq ?_
    cases ho
    exact r_ret fun _ _ s => fz [] s ⟨rfl, trivial⟩ rfl
   ·have ho := cnd0 ho hb23
    refine mvg (gf0 hb23) rfl rfl rfl <| s_cmp (.g rfl rfl (gf0 hb23)) rfl rfl (.t rfl) (.i (by decide) (by decide)) .gtr <| mvg (gf0 hb23) rfl rfl rfl ?_
    rcases Bool.eq_false_or_eq_true ((decide (s14 > 0))) with hb25 | hb25
    ·have ho := cnd1 ho hb25
     refine mvg (gt1 hb25) rfl rfl rfl <| mvg (gt1 hb25) rfl rfl rfl <| mvg (gt1 hb25) rfl rfl rfl <| s_ar (.g rfl rfl (gt1 hb25)) rfl rfl (.t rfl) (.i (by decide) (by decide)) .sub ?_
     obtain ⟨x26, hx26, ho⟩ := bnd ho
     refine s_idx S29 hx26 (.g rfl rfl (gt1 hb25)) rfl rfl (.t rfl) (.t rfl) <| ldg U3 (gt1 hb25) rfl rfl rfl <| s_cmp (.g rfl rfl (gt1 hb25)) rfl rfl (.t rfl) (.t rfl) .leq <| s_pk1 hb25 (.g rfl rfl (gf0 hb23)) rfl rfl (.t rfl) (.t rfl) <| pk0 hb23 rfl (.t rfl) <| nq <| ct rfl (fun hq27 => ?_) (fun hq27 => ?_)
     ·have ho := cnd1 ho hq27
      refine rr <| sgb <| nq ?_
      cases ho
      exact r_ret fun _ _ s => fz [] s ⟨rfl, trivial⟩ rfl
     ·have ho := cnd0 ho hq27
      refine kq rfl <| r_region <| arc rfl (by decide) .add <| mv rfl ?_
      cases ho
      exact s_nil fun _ _ s => fz [] s ⟨rfl, rfl, rfl, rfl, rfl, trivial⟩ rfl
    ·have ho := cnd0 ho hb25
     refine skg (gt0 hb25) rfl rfl <| skg (gt0 hb25) rfl rfl <| skg (gt0 hb25) rfl rfl <| skg (gt0 hb25) rfl rfl <| skg (gt0 hb25) rfl rfl <| skg (gt0 hb25) rfl rfl <| skg (gt0 hb25) rfl rfl <| s_pk0 hb25 (.g rfl rfl (gf0 hb23)) rfl rfl (.t rfl) .b <| pk0 hb23 rfl (.t rfl) <| nq <| ct rfl (fun hq => by cases hq) (fun _ => ?_)
     refine kq rfl <| r_region <| arc rfl (by decide) .add <| mv rfl ?_
     cases ho
     exact s_nil fun _ _ s => fz [] s ⟨rfl, rfl, rfl, rfl, rfl, trivial⟩ rfl
  ·have ho := cnd0 ho hq16
   cases ho
   exact r_exit fun _ _ s => fz [] s trivial rfl
 ·clear ht29
  rcases t29 with b31 | b32
  ·have ho := alt_l ho
   intro g33
   show ∀ fr h, St _ [] [] fr h → _
   show SRun ..
   refine rr <| sgb <| nq ?_
   cases ho
   exact r_ret (ret_of (.inr rfl) (.v rfl .n) (by decide))
  ·have ho := alt_r ho
   intro g34
   show ∀ fr h, St _ [(4, .val rBool (b32))] [] fr h → _
   cases ho
   exact id (ret_of (.inr rfl) (.v rfl .n) (by decide))
theorem g_duty_work_pairs_1_okm {σ τ : Type} {step : σ → (Int × Int) → Option (σ ⊕ τ)} {yv : AVal} {K : σ ⊕ τ → List AVal → Sx.Obj} (hcb : CbAt ktab yv (fun x => [.val (rInt .i64) (x.1), .val (rInt .i64) (x.2)]) step K) {s_ : σ} {p_1 : duty_work} {out : ((σ ⊕ τ))} (ho : g_duty_work_pairs_1 step s_ p_1 = some out) (γ0 : List AVal) : FunM ktab 81 [.raw yv, .val (rPtr (rPtr rduty_work)) p_1] [(yv, K (.inl s_) γ0)] [] (fun γ => [(yv, K (out) (untup (gh γ 0)))]) := by
 refine funm_of (F := Try.f81) (by rfl) (by rfl) (by rfl) (fun C => ?_)
 delta g_duty_work_pairs_1 at ho
 refine rr <| ld U79 rfl <| nk rfl <| fa F81_0 fk_duty_work_0 (by decide) rfl <| ld U22 rfl <| ln S22 rfl rfl rfl (.t rfl) <| mvc (by decide) <| nq <| r_block ?_
 obtain ⟨t145, ht145, ho⟩ := bnd ho
 refine r_loop (σ := (Int × (σ ⊕ τ))) (τ := ((σ ⊕ τ)) ⊕ (((σ ⊕ τ)))) (G := List AVal) (fun s g => ([(0, .raw yv), (1, .val (rPtr (rPtr rduty_work)) (p_1)), (9, .val (rInt .i64) ((lenI p_1.1))), (10, .val (rInt .i64) (s.1))], [(yv, K s.2 ((untup (gh g 0))))])) (altX (fun b => (.exit 0, fun g => ([], [(yv, K b ((untup (gh g 0))))]))) (fun b => (.ret, fun g => ([], [(yv, K b ((untup (gh g 0))))])))) _ [.tuple γ0] ht145 (fun fr h s => s.pick [0] ⟨rfl, rfl, rfl, rfl, trivial⟩ rfl (by decide)) ?_ ?_ ?_
 ·intro t
  rcases t with t | t
  ·exact nx
  ·exact nr
 ·clear ho
  intro s95 g96 r146 ho
  refine rr <| cm rfl rfl .lss <| nq <| r_seq <| ct rfl (fun hq97 => ?_) (fun hq97 => ?_)
  ·have ho := cnd1 ho hq97
   refine kq rfl <| r_seq <| r_block <| rr <| mv rfl <| sg rfl <| nq <| rr <| ld U79 rfl <| nk rfl <| fa F81_0 fk_duty_work_0 (by decide) rfl <| ld U22 rfl <| ln S22 rfl rfl rfl (.t rfl) <| mvc (by decide) <| nq <| r_block ?_
   obtain ⟨t139, ht139, ho⟩ := bnd ho
   refine r_loop (σ := (Int × (σ ⊕ τ))) (τ := ((σ ⊕ τ)) ⊕ (((σ ⊕ τ)))) (G := List AVal) (fun s g => ([(0, .raw yv), (1, .val (rPtr (rPtr rduty_work)) (p_1)), (3, .val (rInt .i64) (s95.1)), (9, .val (rInt .i64) ((lenI p_1.1))), (10, .val (rInt .i64) (s95.1)), (17, .val (rInt .i64) ((lenI p_1.1))), (18, .val (rInt .i64) (s.1))], [(yv, K s.2 ((untup (gh g 0))))])) (altX (fun b => (.exit 2, fun g => ([(0, .raw yv), (1, .val (rPtr (rPtr rduty_work)) (p_1)), (9, .val (rInt .i64) ((lenI p_1.1))), (10, .val (rInt .i64) (s95.1))], [(yv, K b ((untup (gh g 0))))]))) (fun b => (.ret, fun g => ([], [(yv, K b ((untup (gh g 0))))])))) _ [.tuple ((untup (gh g96 0)))] ht139 (fun fr h s => s.pick [0] ⟨rfl, rfl, rfl, rfl, rfl, rfl, rfl, trivial⟩ rfl (by decide)) ?_ ?_ ?_
   ·intro t
    rcases t with t | t
    ·exact nx
    ·exact nr
   ·clear ho
    intro s124 g125 r140 ho
    refine rr <| cm rfl rfl .lss <| nq <| r_seq <| ct rfl (fun hq126 => ?_) (fun hq126 => ?_)
    ·have ho := cnd1 ho hq126
     refine kq rfl <| r_seq <| r_block <| rr <| mv rfl <| sg rfl <| nq <| rr <| ld U79 rfl <| mv rfl <| mv rfl ?_
     obtain ⟨y132, hy132, ho⟩ := bnd ho
     refine s_calll (g_duty_work_follows_ok hy132) (.v flat_bool .n) rfl (.n rfl) rfl rfl rfl .f (.c (.o (.t rfl)) (.c (.o (.t rfl)) (.c (.o (.t rfl)) .n))) ?_
     show SOps ..
     refine mv rfl ?_
     rcases Bool.eq_false_or_eq_true (y132) with hb133 | hb133
     ·have ho := cnd1 ho hb133
      refine mvg (gt1 hb133) rfl rfl rfl <| mvg (gt1 hb133) rfl rfl rfl <| mvg (gt1 hb133) rfl rfl rfl ?_
      obtain ⟨s134, hs134, ho⟩ := bnd ho
      refine s_st (st_cbl (K := K) 0 (goL_inv hs134) rfl rfl) ?_
      obtain ⟨y135, hy135, ho⟩ := bnd ho
      refine s_cally [0] [] (fun _ h => by cases h) hcb hy135 rfl rfl rfl (by decide) (.g rfl rfl (gt1 hb133)) rfl rfl rfl (.t rfl) (.c (.t rfl) (.c (.t rfl) .n)) ?_
      intro v136
      refine s_not (.g rfl rfl (gt1 hb133)) rfl rfl (.t rfl) <| pk1 hb133 rfl (.t rfl) <| nq <| ct rfl (fun hq137 => ?_) (fun hq137 => ?_)
      ·have ho := cnd1 ho hq137
       cases ho
       exact r_ret (fun fr h s => And.intro rfl (Exists.intro [.tuple v136] (s.pick [0] trivial rfl (by decide))))
      ·have ho := cnd0 ho hq137
       refine kq rfl <| r_region <| arc rfl (by decide) .add <| mv rfl ?_
       cases ho
       exact s_nil (fun fr h s => And.intro rfl (Exists.intro [.tuple v136] (s.pick [0] ⟨rfl, rfl, rfl, rfl, rfl, rfl, rfl, trivial⟩ rfl (by decide))))
     ·have ho := cnd0 ho hb133
      refine skg (gt0 hb133) rfl rfl <| skg (gt0 hb133) rfl rfl <| skg (gt0 hb133) rfl rfl <| skg (gt0 hb133) rfl rfl <| skg (gt0 hb133) rfl rfl <| pk0 hb133 rfl .b <| nq <| ct rfl (fun hq => by cases hq) (fun _ => ?_)
      refine kq rfl <| r_region <| arc rfl (by decide) .add <| mv rfl ?_
      cases ho
      exact s_nil (fun fr h s => And.intro rfl (Exists.intro [.tuple ((untup (gh g125 0)))] (s.pick [0] ⟨rfl, rfl, rfl, rfl, rfl, rfl, rfl, trivial⟩ rfl (by decide))))
    ·have ho := cnd0 ho hq126
     cases ho
     exact r_exit (fun fr h s => And.intro rfl (Exists.intro [.tuple ((untup (gh g125 0)))] (s.pick [0] ⟨rfl, rfl, rfl, rfl, trivial⟩ rfl (by decide))))
   ·clear ht139
    rcases t139 with b141 | b142
    ·have ho := alt_l ho
     intro g143
     show ∀ fr h, St _ [(0, .raw yv), (1, .val (rPtr (rPtr rduty_work)) (p_1)), (9, .val (rInt .i64) ((lenI p_1.1))), (10, .val (rInt .i64) (s95.1))] [(yv, K b141 ((untup (gh g143 0))))] fr h → _
     show SRun ..
     refine r_region <| arc rfl (by decide) .add <| mv rfl ?_
     cases ho
     exact s_nil (fun fr h s => And.intro rfl (Exists.intro [.tuple ((untup (gh g143 0)))] (s.pick [0] ⟨rfl, rfl, rfl, rfl, trivial⟩ rfl (by decide))))
    ·have ho := alt_r ho
     intro g144
     show ∀ fr h, St _ [] [(yv, K b142 ((untup (gh g144 0))))] fr h → _
     cases ho
     exact id (fun fr h s => And.intro rfl (Exists.intro [.tuple ((untup (gh g144 0)))] (s.pick [0] trivial rfl (by decide))))
  ·have ho := cnd0 ho hq97
   cases ho
   exact r_exit (fun fr h s => And.intro rfl (Exists.intro [.tuple ((untup (gh g96 0)))] (s.pick [0] trivial rfl (by decide))))
 ·clear ht145
  rcases t145 with b147 | b148
  ·have ho := alt_l ho
   intro g149
   show ∀ fr h, St _ [] [(yv, K b147 ((untup (gh g149 0))))] fr h → _
   cases ho
   exact id (retm_of [0] [.tuple ((untup (gh g149 0)))] (.inl rfl) .n rfl (by decide))
  ·have ho := alt_r ho
   intro g150
   show ∀ fr h, St _ [] [(yv, K b148 ((untup (gh g150 0))))] fr h → _
   cases ho
   exact id (retm_of [0] [.tuple ((untup (gh g150 0)))] (.inr rfl) .n rfl (by decide))
theorem g_duty_work_pairs_1_ok {σ τ : Type} {step : σ → (Int × Int) → Option (σ ⊕ τ)} {yv : AVal} {K : σ ⊕ τ → List AVal → Sx.Obj} (hcb : CbAt ktab yv (fun x => [.val (rInt .i64) (x.1), .val (rInt .i64) (x.2)]) step K) {s_ : σ} {p_1 : duty_work} {out : ((σ ⊕ τ))} (ho : g_duty_work_pairs_1 step s_ p_1 = some out) (γ0 : List AVal) : FunM ktab 81 [.raw yv, .val (rPtr (rPtr rduty_work)) p_1] [(yv, K (.inl s_) γ0)] [] (fun γ => [(yv, K (out) γ)]) :=
 funm_gh (g_duty_work_pairs_1_okm hcb ho γ0)
theorem g_duty_work_pairs_ok {w_0 : duty_work} {out : ((duty_work))} (ho : g_duty_work_pairs w_0 = some out) : Fun ktab 57 [.val (rPtr rduty_work) w_0] [.val (rClo 81 [] [.val (rPtr (rPtr rduty_work)) (out)]) ()] := by
 refine fun_of (F := Try.f57) (by rfl) (by rfl) (by rfl) (fun C hC => ?_)
 delta g_duty_work_pairs at ho
 refine rr <| bx rfl <| s_pure rfl (.n rfl) rfl (e := .raw .nilfunc) (fun z fr h s => ⟨_, rfl, by simp only [TE.ok]; rfl⟩) ?_
 refine nq <| rr <| s_mkclo (.n rfl) rfl rfl .n (.c (.t rfl) .n) <| sg rfl <| nq ?_
 cases ho
 exact r_ret (ret_of (.inr rfl) (.v rfl .n) (by decide))
theorem g_duty_Proves_ok {p_0 : (List Task)} {p_1 : Yard} {p_2 : Int} {p_3 : DutyProof} {out : (Bool)} (ho : g_duty_Proves p_0 p_1 p_2 p_3 = some out) : Fun ktab 36 [.val (rSlice rTask) p_0, .val rYard p_1, .val (rInt .i64) p_2, .val rDutyProof p_3] [.val rBool (out)] := by
 refine fun_of (F := Try.f36) (by rfl) (by rfl) (by rfl) (fun C hC => ?_)
 delta g_duty_Proves at ho
 refine rr <| bx rfl <| bx rfl <| s_alloc (zv := .bool false) (es := [.val rBool (false)]) (by kernel_rfl) (fun _ => (okbool okn)) rfl (.n rfl) rfl rfl ?_
 intro b1
 refine nq <| rr <| mv rfl <| ln S22 rfl rfl rfl (.t rfl) <| sg rfl <| nq <| r_seq <| r_seq ?_
 obtain ⟨c11, hc11, ho⟩ := bnd ho
 refine r_cut (τ := (Bool)) (G := Unit) (fun t => (.normal, fun _ => ([(0, .val (rSlice rTask) (p_0)), (5, .val (rPtr rYard) (p_1)), (7, .val (rPtr rDutyProof) (p_3)), (8, .raw (.ptr b1 0)), (53, .val rBool (t))], [(.ptr b1 0, .box [.val rBool (false)])]))) (t := c11) ?_ ?_
 ·have ho := hc11
  clear hc11
  refine r_region <| mv rfl <| ld U26 rfl ?_
  obtain ⟨y12, hy12, ho⟩ := bnd ho
  refine s_calll (g_duty_Check_ok hy12) (.v flat_int .n) rfl (.n rfl) rfl rfl rfl .f (.c (.o (.t rfl)) (.c (.o (.t rfl)) .n)) ?_
  show SOps ..
  refine cmc rfl (by decide) .neq <| mv rfl ?_
  rcases Bool.eq_false_or_eq_true ((y12 != 0)) with hb13 | hb13
  ·have ho := cnd1 ho hb13
   refine skg (gf1 hb13) rfl rfl <| skg (gf1 hb13) rfl rfl <| pk1 hb13 rfl .b <| mv rfl <| skg rfl rfl rfl <| skg rfl rfl rfl <| skg rfl rfl rfl <| pt rfl .b <| mv rfl <| skg rfl rfl rfl <| skg rfl rfl rfl <| skg rfl rfl rfl <| skg rfl rfl rfl <| skg rfl rfl rfl <| pt rfl .b <| mv rfl <| skg rfl rfl rfl <| skg rfl rfl rfl <| skg rfl rfl rfl <| skg rfl rfl rfl <| skg rfl rfl rfl <| pt rfl .b <| mv rfl <| skg rfl rfl rfl ?_
   refine skg rfl rfl rfl <| skg rfl rfl rfl <| skg rfl rfl rfl <| skg rfl rfl rfl <| skg rfl rfl rfl <| skg rfl rfl rfl <| skg rfl rfl rfl <| skg rfl rfl rfl <| skg rfl rfl rfl <| skg rfl rfl rfl <| pt rfl .b ?_
   cases ho
   exact s_nil (fun fr h s => And.intro rfl (Exists.intro () (s.pick [0] ⟨rfl, rfl, rfl, rfl, rfl, trivial⟩ rfl (by decide))))
  ·have ho := cnd0 ho hb13
   refine mvg (gf0 hb13) rfl rfl rfl <| s_cmp (.g rfl rfl (gf0 hb13)) rfl rfl (.t rfl) (.i (by decide) (by decide)) .lss <| pk0 hb13 rfl (.t rfl) <| mv rfl ?_
   rcases Bool.eq_false_or_eq_true ((decide (p_2 < 0))) with hb14 | hb14
   ·have ho := cnd1 ho hb14
    refine skg (gf1 hb14) rfl rfl <| skg (gf1 hb14) rfl rfl <| skg (gf1 hb14) rfl rfl <| pk1 hb14 rfl .b <| mv rfl <| skg rfl rfl rfl <| skg rfl rfl rfl <| skg rfl rfl rfl <| skg rfl rfl rfl <| skg rfl rfl rfl <| pt rfl .b <| mv rfl <| skg rfl rfl rfl <| skg rfl rfl rfl <| skg rfl rfl rfl <| skg rfl rfl rfl <| skg rfl rfl rfl <| pt rfl .b <| mv rfl <| skg rfl rfl rfl <| skg rfl rfl rfl <| skg rfl rfl rfl <| skg rfl rfl rfl ?_
    refine skg rfl rfl rfl <| skg rfl rfl rfl <| skg rfl rfl rfl <| skg rfl rfl rfl <| skg rfl rfl rfl <| skg rfl rfl rfl <| skg rfl rfl rfl <| pt rfl .b ?_
    cases ho
    exact s_nil (fun fr h s => And.intro rfl (Exists.intro () (s.pick [0] ⟨rfl, rfl, rfl, rfl, rfl, trivial⟩ rfl (by decide))))
   ·have ho := cnd0 ho hb14
    refine mvg (gf0 hb14) rfl rfl rfl <| mvg (gf0 hb14) rfl rfl rfl <| s_cmp (.g rfl rfl (gf0 hb14)) rfl rfl (.t rfl) (.t rfl) .gtr <| pk0 hb14 rfl (.t rfl) <| mv rfl ?_
    rcases Bool.eq_false_or_eq_true ((decide (p_2 > (lenI p_0)))) with hb15 | hb15
    ·have ho := cnd1 ho hb15
     refine skg (gf1 hb15) rfl rfl <| skg (gf1 hb15) rfl rfl <| skg (gf1 hb15) rfl rfl <| skg (gf1 hb15) rfl rfl <| skg (gf1 hb15) rfl rfl <| pk1 hb15 rfl .b <| mv rfl <| skg rfl rfl rfl <| skg rfl rfl rfl <| skg rfl rfl rfl <| skg rfl rfl rfl <| skg rfl rfl rfl <| pt rfl .b <| mv rfl <| skg rfl rfl rfl <| skg rfl rfl rfl <| skg rfl rfl rfl <| skg rfl rfl rfl <| skg rfl rfl rfl <| skg rfl rfl rfl <| skg rfl rfl rfl ?_
     refine skg rfl rfl rfl <| skg rfl rfl rfl <| skg rfl rfl rfl <| skg rfl rfl rfl <| pt rfl .b ?_
     cases ho
     exact s_nil (fun fr h s => And.intro rfl (Exists.intro () (s.pick [0] ⟨rfl, rfl, rfl, rfl, rfl, trivial⟩ rfl (by decide))))
    ·have ho := cnd0 ho hb15
     refine s_fa F31_0 fk_DutyProof_0 (by decide) (.g rfl rfl (gf0 hb15)) rfl rfl (.t rfl) <| ldg U29 (gf0 hb15) rfl rfl rfl <| mvg (gf0 hb15) rfl rfl rfl ?_
     obtain ⟨y16, hy16, ho⟩ := bnd ho
     refine s_calll (g_duty_rising_ok hy16) (.v flat_bool .n) rfl (.g rfl rfl (gf0 hb15)) rfl rfl rfl .f (.c (.o (.t rfl)) (.c (.o (.t rfl)) .n)) ?_
     show SOps ..
     refine s_not (.g rfl rfl (gf0 hb15)) rfl rfl (.t rfl) <| pk0 hb15 rfl (.t rfl) <| mv rfl ?_
     rcases Bool.eq_false_or_eq_true ((!y16)) with hb17 | hb17
     ·have ho := cnd1 ho hb17
      refine skg (gf1 hb17) rfl rfl <| skg (gf1 hb17) rfl rfl <| skg (gf1 hb17) rfl rfl <| skg (gf1 hb17) rfl rfl <| skg (gf1 hb17) rfl rfl <| pk1 hb17 rfl .b <| mv rfl <| skg rfl rfl rfl <| skg rfl rfl rfl <| skg rfl rfl rfl <| skg rfl rfl rfl <| skg rfl rfl rfl <| skg rfl rfl rfl <| skg rfl rfl rfl <| skg rfl rfl rfl <| skg rfl rfl rfl <| skg rfl rfl rfl <| skg rfl rfl rfl <| pt rfl .b ?_
      cases ho
      exact s_nil (fun fr h s => And.intro rfl (Exists.intro () (s.pick [0] ⟨rfl, rfl, rfl, rfl, rfl, trivial⟩ rfl (by decide))))
     ·have ho := cnd0 ho hb17
      refine s_fa F31_1 fk_DutyProof_1 (by decide) (.g rfl rfl (gf0 hb17)) rfl rfl (.t rfl) <| ldg U29 (gf0 hb17) rfl rfl rfl <| mvg (gf0 hb17) rfl rfl rfl ?_
      obtain ⟨y18, hy18, ho⟩ := bnd ho
      refine s_calll (g_duty_rising_ok hy18) (.v flat_bool .n) rfl (.g rfl rfl (gf0 hb17)) rfl rfl rfl .f (.c (.o (.t rfl)) (.c (.o (.t rfl)) .n)) ?_
      show SOps ..
      refine s_not (.g rfl rfl (gf0 hb17)) rfl rfl (.t rfl) <| pk0 hb17 rfl (.t rfl) <| mv rfl ?_
      rcases Bool.eq_false_or_eq_true ((!y18)) with hb19 | hb19
      ·have ho := cnd1 ho hb19
       refine skg (gf1 hb19) rfl rfl <| skg (gf1 hb19) rfl rfl <| skg (gf1 hb19) rfl rfl <| skg (gf1 hb19) rfl rfl <| skg (gf1 hb19) rfl rfl <| skg (gf1 hb19) rfl rfl <| skg (gf1 hb19) rfl rfl <| skg (gf1 hb19) rfl rfl <| skg (gf1 hb19) rfl rfl <| skg (gf1 hb19) rfl rfl <| skg (gf1 hb19) rfl rfl <| pk1 hb19 rfl .b ?_
       cases ho
       exact s_nil (fun fr h s => And.intro rfl (Exists.intro () (s.pick [0] ⟨rfl, rfl, rfl, rfl, rfl, trivial⟩ rfl (by decide))))
      ·have ho := cnd0 ho hb19
       refine s_fa F31_0 fk_DutyProof_0 (by decide) (.g rfl rfl (gf0 hb19)) rfl rfl (.t rfl) <| ldg U29 (gf0 hb19) rfl rfl rfl <| s_len S29 (.g rfl rfl (gf0 hb19)) rfl rfl rfl rfl rfl (.t rfl) <| s_fa F31_1 fk_DutyProof_1 (by decide) (.g rfl rfl (gf0 hb19)) rfl rfl (.t rfl) <| ldg U29 (gf0 hb19) rfl rfl rfl <| s_len S29 (.g rfl rfl (gf0 hb19)) rfl rfl rfl rfl rfl (.t rfl) <| s_ar (.g rfl rfl (gf0 hb19)) rfl rfl (.t rfl) (.t rfl) .add ?_
       refine mvg (gf0 hb19) rfl rfl rfl <| mvg (gf0 hb19) rfl rfl rfl <| s_ar (.g rfl rfl (gf0 hb19)) rfl rfl (.t rfl) (.t rfl) .sub <| s_cmp (.g rfl rfl (gf0 hb19)) rfl rfl (.t rfl) (.t rfl) .gtr <| pk0 hb19 rfl (.t rfl) ?_
       cases ho
       exact s_nil (fun fr h s => And.intro rfl (Exists.intro () (s.pick [0] ⟨rfl, rfl, rfl, rfl, rfl, trivial⟩ rfl (by decide))))
 ·intro _
  show SRun ..
  refine ct rfl (fun hq20 => ?_) (fun hq20 => ?_)
  ·have ho := cnd1 ho hq20
   refine rr <| s_storeb 0 (U4).sz rfl (by exact Nat.le_of_ble_eq_true rfl) (.n rfl) rfl rfl (.t rfl) .b rfl rfl <| nq ?_
   cases ho
   exact r_ret (ret_of (.inr rfl) (.b 0 U4 (cells_one rfl) rfl rfl .n) (by decide))
  ·have ho := cnd0 ho hq20
   refine kq rfl <| r_seq <| rr <| mv rfl <| ld U26 rfl <| s_build (R := rduty_work) B81 (.n rfl) rfl rfl rfl (.p (.t rfl) rfl (.p (.t rfl) rfl (.n rfl))) ?_
   refine bx rfl ?_
   obtain ⟨y21, hy21, ho⟩ := bnd ho
   refine s_call (pre := []) (post := []) (vs := []) (g_duty_work_pairs_ok hy21) rfl (.n rfl) rfl rfl rfl .f (.c (.t rfl) .n) ?_
   show SOps ..
   refine nq <| r_block ?_
   obtain ⟨t41, ht41, ho⟩ := bnd ho
   refine r_range (σ := Unit) (τ := Unit) (X := (Int × Int)) (ins := (fun x => [.val (rInt .i64) (x.1), .val (rInt .i64) (x.2)])) (altO (fun s g => [(.ptr b1 0, .box [.val rBool (false)])]) (fun t g => [(.ptr b1 0, .box [.val rBool (false)])])) (fun _ => none) (s0 := ()) (r := t41) [] [0] [] rfl (.t rfl) rfl rfl (by decide) (fun _ => rfl) (fun yv K hcb γ => g_duty_work_pairs_1_ok hcb ht41 γ) ?_ ?_
   ·clear ho ht41
    intro s31 g32 x22 r42 ho C
    refine rr <| sg rfl <| nq <| r_region <| sg rfl <| s_nil (fun fr h s => And.intro rfl (Exists.intro _ (Exists.intro _ (And.intro s (fun C => ?_)))))
    refine r_block <| r_seq ?_
    obtain ⟨c36, hc36, ho⟩ := bnd ho
    refine r_cut (τ := (Bool)) (G := Unit) (fun t => (.normal, fun _ => ([(8, .raw (.ptr b1 0)), (72, .val rBool (t))], [(.ptr b1 0, .box [.val rBool (false)])]))) (t := c36) ?_ ?_
    ·have ho := hc36
     clear hc36
     refine r_region <| fa F31_0 fk_DutyProof_0 (by decide) rfl <| ld U29 rfl <| mv rfl ?_
     obtain ⟨y37, hy37, ho⟩ := bnd ho
     refine s_calll (g_slices_Contains_int_int_ok hy37) (.v flat_bool .n) rfl (.n rfl) rfl rfl rfl .f (.c (.o (.t rfl)) (.c (.o (.t rfl)) .n)) ?_
     show SOps ..
     refine s_not (.n rfl) rfl rfl (.t rfl) <| mv rfl ?_
     rcases Bool.eq_false_or_eq_true ((!y37)) with hb38 | hb38
     ·have ho := cnd1 ho hb38
      refine s_fa F31_1 fk_DutyProof_1 (by decide) (.g rfl rfl (gt1 hb38)) rfl rfl (.t rfl) <| ldg U29 (gt1 hb38) rfl rfl rfl <| mvg (gt1 hb38) rfl rfl rfl ?_
      obtain ⟨y39, hy39, ho⟩ := bnd ho
      refine s_calll (g_slices_Contains_int_int_ok hy39) (.v flat_bool .n) rfl (.g rfl rfl (gt1 hb38)) rfl rfl rfl .f (.c (.o (.t rfl)) (.c (.o (.t rfl)) .n)) ?_
      show SOps ..
      refine s_not (.g rfl rfl (gt1 hb38)) rfl rfl (.t rfl) <| pk1 hb38 rfl (.t rfl) ?_
      cases ho
      exact s_nil (fun fr h s => And.intro rfl (Exists.intro () (s.pick [0] ⟨rfl, rfl, trivial⟩ rfl (by decide))))
     ·have ho := cnd0 ho hb38
      refine skg (gt0 hb38) rfl rfl <| skg (gt0 hb38) rfl rfl <| skg (gt0 hb38) rfl rfl <| skg (gt0 hb38) rfl rfl <| skg (gt0 hb38) rfl rfl <| pk0 hb38 rfl .b ?_
      cases ho
      exact s_nil (fun fr h s => And.intro rfl (Exists.intro () (s.pick [0] ⟨rfl, rfl, trivial⟩ rfl (by decide))))
    ·intro _
     show SRun ..
     refine ct rfl (fun hq40 => ?_) (fun hq40 => ?_)
     ·have ho := cnd1 ho hq40
      refine rr <| s_storeb 0 (U4).sz rfl (by exact Nat.le_of_ble_eq_true rfl) (.n rfl) rfl rfl (.t rfl) .b rfl rfl <| nq ?_
      cases ho
      exact r_ret (fun fr h s => And.intro rfl (Exists.intro [] (s.pick [0] trivial rfl (by decide))))
     ·have ho := cnd0 ho hq40
      cases ho
      exact r_skip (fun fr h s => And.intro rfl (Exists.intro [] (s.pick [0] trivial rfl (by decide))))
   ·clear ht41
    rcases t41 with b43 | b44
    ·have ho := alt_l ho
     intro g45
     refine st_wk (Γ' := [(0, .val (rSlice rTask) (p_0)), (5, .val (rPtr rYard) (p_1)), (7, .val (rPtr rDutyProof) (p_3)), (8, .raw (.ptr b1 0)), (53, .val rBool (c11)), (54, .val (rSlice rTask) (p_0)), (55, .val rYard (p_1)), (56, .val rduty_work (((p_0, p_1, ()) : duty_work))), (57, .val (rPtr rduty_work) (((p_0, p_1, ()) : duty_work))), (58, .val (rClo 81 [] [.val (rPtr (rPtr rduty_work)) (y21)]) ())]) (L' := [(.ptr b1 0, .box [.val rBool (false)])]) [0] ⟨rfl, rfl, rfl, rfl, rfl, rfl, rfl, rfl, rfl, rfl, trivial⟩ rfl (by decide) ?_
     show ∀ fr h, St _ [(0, .val (rSlice rTask) (p_0)), (5, .val (rPtr rYard) (p_1)), (7, .val (rPtr rDutyProof) (p_3)), (8, .raw (.ptr b1 0)), (53, .val rBool (c11)), (54, .val (rSlice rTask) (p_0)), (55, .val rYard (p_1)), (56, .val rduty_work (((p_0, p_1, ()) : duty_work))), (57, .val (rPtr rduty_work) (((p_0, p_1, ()) : duty_work))), (58, .val (rClo 81 [] [.val (rPtr (rPtr rduty_work)) (y21)]) ())] [(.ptr b1 0, .box [.val rBool (false)])] fr h → _
     show SRun ..
     refine rr <| s_storeb 0 (U4).sz rfl (by exact Nat.le_of_ble_eq_true rfl) (.n rfl) rfl rfl (.t rfl) .b rfl rfl <| nq ?_
     cases ho
     exact r_ret (ret_of (.inr rfl) (.b 0 U4 (cells_one rfl) rfl rfl .n) (by decide))
    ·have ho := alt_r ho
     intro g46
     refine st_wk (Γ' := [(0, .val (rSlice rTask) (p_0)), (5, .val (rPtr rYard) (p_1)), (7, .val (rPtr rDutyProof) (p_3)), (8, .raw (.ptr b1 0)), (53, .val rBool (c11)), (54, .val (rSlice rTask) (p_0)), (55, .val rYard (p_1)), (56, .val rduty_work (((p_0, p_1, ()) : duty_work))), (57, .val (rPtr rduty_work) (((p_0, p_1, ()) : duty_work))), (58, .val (rClo 81 [] [.val (rPtr (rPtr rduty_work)) (y21)]) ())]) (L' := [(.ptr b1 0, .box [.val rBool (false)])]) [0] ⟨rfl, rfl, rfl, rfl, rfl, rfl, rfl, rfl, rfl, rfl, trivial⟩ rfl (by decide) ?_
     show ∀ fr h, St _ [(0, .val (rSlice rTask) (p_0)), (5, .val (rPtr rYard) (p_1)), (7, .val (rPtr rDutyProof) (p_3)), (8, .raw (.ptr b1 0)), (53, .val rBool (c11)), (54, .val (rSlice rTask) (p_0)), (55, .val rYard (p_1)), (56, .val rduty_work (((p_0, p_1, ()) : duty_work))), (57, .val (rPtr rduty_work) (((p_0, p_1, ()) : duty_work))), (58, .val (rClo 81 [] [.val (rPtr (rPtr rduty_work)) (y21)]) ())] [(.ptr b1 0, .box [.val rBool (false)])] fr h → _
     cases ho
     exact id (ret_of (.inr rfl) (.b 0 U4 (cells_one rfl) rfl rfl .n) (by decide))
theorem g_ref08_rising_ok {l_0 : (List Int)} {n_1 : Int} {out : (Bool)} (ho : g_ref08_rising l_0 n_1 = some out) : Fun ktab 59 [.val (rSlice (rInt .i64)) l_0, .val (rInt .i64) n_1] [.val rBool (out)] := by
 refine fun_of (F := Try.f59) (by rfl) (by rfl) (by rfl) (fun C hC => ?_)
 delta g_ref08_rising at ho
 refine rr <| sgb <| nq <| r_seq <| rr <| sgc (by decide) <| nq <| r_block ?_
 obtain ⟨t35, ht35, ho⟩ := bnd ho
 refine r_loop (σ := (Int)) (τ := Unit ⊕ (Bool)) (G := List AVal) (fun s g => ([(0, .val (rSlice (rInt .i64)) (l_0)), (1, .val (rInt .i64) (n_1)), (5, .val (rInt .i64) (s))], [])) (altX (fun b => (.exit 0, fun g => ([], []))) (fun b => (.ret, fun g => ([(4, .val rBool (b))], [])))) _ [] ht35 (fun fr h s => s.pick [] ⟨rfl, rfl, rfl, trivial⟩ rfl (by decide)) ?_ ?_ ?_
 ·intro t
  rcases t with t | t
  ·exact nx
  ·exact nr
 ·clear ho
  intro s17 g18 r36 ho
  refine r_seq <| rr <| mv rfl <| mv rfl <| ln S29 rfl rfl rfl (.t rfl) <| cm rfl rfl .lss <| nq <| ct rfl (fun hq19 => ?_) (fun hq19 => ?_)
  ·have ho := cnd1 ho hq19
   refine kq rfl <| r_seq <| r_block <| r_seq ?_
   refine r_draw [] (by kernel_rfl) ?_
   refine mv rfl <| mv rfl ?_
   obtain ⟨x26, hx26, ho⟩ := bnd ho
   refine ix S29 hx26 rfl rfl <| ld U3 rfl <| mv rfl <| arc rfl (by decide) .sub ?_
   obtain ⟨y27, hy27, ho⟩ := bnd ho
   refine s_calll (g_ref08_in_ok hy27) (.v flat_bool .n) rfl (.n rfl) rfl rfl rfl .f (.c (.o (.t rfl)) (.c (.o (.i (by decide) (by decide))) (.c (.o (.t rfl)) .n))) ?_
   show SOps ..
   refine s_not (.n rfl) rfl rfl (.t rfl) <| mv rfl ?_
   rcases Bool.eq_false_or_eq_true ((!y27)) with hb28 | hb28
   ·have ho := cnd1 ho hb28
    refine skg (gf1 hb28) rfl rfl <| skg (gf1 hb28) rfl rfl <| skg (gf1 hb28) rfl rfl <| sku rfl rfl <| sku rfl rfl <| sku rfl rfl <| sku rfl rfl <| sku rfl rfl <| sku rfl rfl <| sku rfl rfl <| sku rfl rfl <| sku rfl rfl <| sku rfl rfl <| skg (gf1 hb28) rfl rfl <| pk1 hb28 rfl .b <| nq <| ct rfl (fun _ => ?_) (fun hq => by cases hq)
    refine rr <| sgb <| nq ?_
    cases ho
    exact r_ret fun _ _ s => fz [] s ⟨rfl, trivial⟩ rfl
   ·have ho := cnd0 ho hb28
    refine mvg (gf0 hb28) rfl rfl rfl <| s_cmp (.g rfl rfl (gf0 hb28)) rfl rfl (.t rfl) (.i (by decide) (by decide)) .gtr <| mvg (gf0 hb28) rfl rfl rfl ?_
    rcases Bool.eq_false_or_eq_true ((decide (s17 > 0))) with hb30 | hb30
    ·have ho := cnd1 ho hb30
     refine mvg (gt1 hb30) rfl rfl rfl <| mvg (gt1 hb30) rfl rfl rfl ?_
     obtain ⟨x31, hx31, ho⟩ := bnd ho
     refine s_idx S29 hx31 (.g rfl rfl (gt1 hb30)) rfl rfl (.t rfl) (.t rfl) <| ldg U3 (gt1 hb30) rfl rfl rfl <| mvg (gt1 hb30) rfl rfl rfl <| mvg (gt1 hb30) rfl rfl rfl <| s_ar (.g rfl rfl (gt1 hb30)) rfl rfl (.t rfl) (.i (by decide) (by decide)) .sub ?_
     obtain ⟨x32, hx32, ho⟩ := bnd ho
     refine s_idx S29 hx32 (.g rfl rfl (gt1 hb30)) rfl rfl (.t rfl) (.t rfl) <| ldg U3 (gt1 hb30) rfl rfl rfl <| s_cmp (.g rfl rfl (gt1 hb30)) rfl rfl (.t rfl) (.t rfl) .leq <| s_pk1 hb30 (.g rfl rfl (gf0 hb28)) rfl rfl (.t rfl) (.t rfl) <| pk0 hb28 rfl (.t rfl) <| nq <| ct rfl (fun hq33 => ?_) (fun hq33 => ?_)
     ·have ho := cnd1 ho hq33
      refine rr <| sgb <| nq ?_
      cases ho
      exact r_ret fun _ _ s => fz [] s ⟨rfl, trivial⟩ rfl
     ·have ho := cnd0 ho hq33
      refine kq rfl <| r_region <| mv rfl <| arc rfl (by decide) .add <| sg rfl ?_
      cases ho
      exact s_nil fun _ _ s => fz [] s ⟨rfl, rfl, rfl, trivial⟩ rfl
    ·have ho := cnd0 ho hb30
     refine skg (gt0 hb30) rfl rfl <| skg (gt0 hb30) rfl rfl <| skg (gt0 hb30) rfl rfl <| skg (gt0 hb30) rfl rfl <| skg (gt0 hb30) rfl rfl <| skg (gt0 hb30) rfl rfl <| skg (gt0 hb30) rfl rfl <| skg (gt0 hb30) rfl rfl <| skg (gt0 hb30) rfl rfl <| skg (gt0 hb30) rfl rfl <| s_pk0 hb30 (.g rfl rfl (gf0 hb28)) rfl rfl (.t rfl) .b <| pk0 hb28 rfl (.t rfl) <| nq <| ct rfl (fun hq => by cases hq) (fun _ => ?_)
     refine kq rfl <| r_region <| mv rfl <| arc rfl (by decide) .add <| sg rfl ?_
     cases ho
     exact s_nil fun _ _ s => fz [] s ⟨rfl, rfl, rfl, trivial⟩ rfl
  ·have ho := cnd0 ho hq19
   cases ho
   exact r_exit fun _ _ s => fz [] s trivial rfl
 ·clear ht35
  rcases t35 with b37 | b38
  ·have ho := alt_l ho
   intro g39
   show ∀ fr h, St _ [] [] fr h → _
   show SRun ..
   refine rr <| sgb <| nq ?_
   cases ho
   exact r_ret (ret_of (.inr rfl) (.v rfl .n) (by decide))
  ·have ho := alt_r ho
   intro g40
   show ∀ fr h, St _ [(4, .val rBool (b38))] [] fr h → _
   cases ho
   exact id (ret_of (.inr rfl) (.v rfl .n) (by decide))
theorem g_ref08_has_ok {l_0 : (List Int)} {x_1 : Int} {out : (Bool)} (ho : g_ref08_has l_0 x_1 = some out) : Fun ktab 60 [.val (rSlice (rInt .i64)) l_0, .val (rInt .i64) x_1] [.val rBool (out)] := by
 refine fun_of (F := Try.f60) (by rfl) (by rfl) (by rfl) (fun C hC => ?_)
 delta g_ref08_has at ho
 refine rr <| sgb <| nq <| r_seq <| rr <| sgc (by decide) <| nq <| r_block ?_
 obtain ⟨t9, ht9, ho⟩ := bnd ho
 refine r_loop (σ := (Int)) (τ := Unit ⊕ (Bool)) (G := List AVal) (fun s g => ([(0, .val (rSlice (rInt .i64)) (l_0)), (1, .val (rInt .i64) (x_1)), (5, .val (rInt .i64) (s))], [])) (altX (fun b => (.exit 0, fun g => ([], []))) (fun b => (.ret, fun g => ([(4, .val rBool (b))], [])))) _ [] ht9 (fun fr h s => s.pick [] ⟨rfl, rfl, rfl, trivial⟩ rfl (by decide)) ?_ ?_ ?_
 ·intro t
  rcases t with t | t
  ·exact nx
  ·exact nr
 ·clear ho
  intro s4 g5 r10 ho
  refine r_seq <| rr <| mv rfl <| mv rfl <| ln S29 rfl rfl rfl (.t rfl) <| cm rfl rfl .lss <| nq <| ct rfl (fun hq6 => ?_) (fun hq6 => ?_)
  ·have ho := cnd1 ho hq6
   refine kq rfl <| r_seq <| r_block <| rr <| mv rfl <| mv rfl ?_
   obtain ⟨x7, hx7, ho⟩ := bnd ho
   refine ix S29 hx7 rfl rfl <| ld U3 rfl <| mv rfl <| cm rfl rfl .eql <| nq <| ct rfl (fun hq8 => ?_) (fun hq8 => ?_)
   ·have ho := cnd1 ho hq8
    refine rr <| sgb <| nq ?_
    cases ho
    exact r_ret fun _ _ s => fz [] s ⟨rfl, trivial⟩ rfl
   ·have ho := cnd0 ho hq8
    refine kq rfl <| r_region <| mv rfl <| arc rfl (by decide) .add <| sg rfl ?_
    cases ho
    exact s_nil fun _ _ s => fz [] s ⟨rfl, rfl, rfl, trivial⟩ rfl
  ·have ho := cnd0 ho hq6
   cases ho
   exact r_exit fun _ _ s => fz [] s trivial rfl
 ·clear ht9
  rcases t9 with b11 | b12
  ·have ho := alt_l ho
   intro g13
   show ∀ fr h, St _ [] [] fr h → _
   show SRun ..
   refine rr <| sgb <| nq ?_
   cases ho
   exact r_ret (ret_of (.inr rfl) (.v rfl .n) (by decide))
  ·have ho := alt_r ho
   intro g14
   show ∀ fr h, St _ [(4, .val rBool (b12))] [] fr h → _
   cases ho
   exact id (ret_of (.inr rfl) (.v rfl .n) (by decide))
theorem g_ref08_Proves_ok {p_0 : (List Task)} {p_1 : Yard} {p_2 : Int} {p_3 : DutyProof} {out : (Bool)} (ho : g_ref08_Proves p_0 p_1 p_2 p_3 = some out) : Fun ktab 37 [.val (rSlice rTask) p_0, .val rYard p_1, .val (rInt .i64) p_2, .val rDutyProof p_3] [.val rBool (out)] := by
 refine fun_of (F := Try.f37) (by rfl) (by rfl) (by rfl) (fun C hC => ?_)
 delta g_ref08_Proves at ho
 refine rr <| bx rfl <| bx rfl <| sgb <| nq <| rr <| mv rfl <| ln S22 rfl rfl rfl (.t rfl) <| sg rfl <| nq <| r_seq <| r_seq ?_
 obtain ⟨c8, hc8, ho⟩ := bnd ho
 refine r_cut (τ := (Bool)) (G := Unit) (fun t => (.normal, fun _ => ([(0, .val (rSlice rTask) (p_0)), (5, .val (rPtr rYard) (p_1)), (7, .val (rPtr rDutyProof) (p_3)), (9, .val (rInt .i64) ((lenI p_0))), (48, .val rBool (t))], []))) (t := c8) ?_ ?_
 ·have ho := hc8
  clear hc8
  refine r_region <| mv rfl <| ld U26 rfl ?_
  obtain ⟨y9, hy9, ho⟩ := bnd ho
  refine s_calll (g_ref08_Fine_ok hy9) (.v flat_bool .n) rfl (.n rfl) rfl rfl rfl .f (.c (.o (.t rfl)) (.c (.o (.t rfl)) .n)) ?_
  show SOps ..
  refine s_not (.n rfl) rfl rfl (.t rfl) <| mv rfl ?_
  rcases Bool.eq_false_or_eq_true ((!y9)) with hb10 | hb10
  ·have ho := cnd1 ho hb10
   refine skg (gf1 hb10) rfl rfl <| skg (gf1 hb10) rfl rfl <| pk1 hb10 rfl .b <| mv rfl <| skg rfl rfl rfl <| skg rfl rfl rfl <| skg rfl rfl rfl <| skg rfl rfl rfl <| skg rfl rfl rfl <| pt rfl .b <| mv rfl <| skg rfl rfl rfl <| skg rfl rfl rfl <| skg rfl rfl rfl <| skg rfl rfl rfl <| skg rfl rfl rfl <| pt rfl .b <| mv rfl <| skg rfl rfl rfl <| skg rfl rfl rfl <| skg rfl rfl rfl <| skg rfl rfl rfl <| skg rfl rfl rfl ?_
   refine skg rfl rfl rfl <| skg rfl rfl rfl <| skg rfl rfl rfl <| skg rfl rfl rfl <| skg rfl rfl rfl <| skg rfl rfl rfl <| pt rfl .b ?_
   cases ho
   exact s_nil fun _ _ s => fz () s ⟨rfl, rfl, rfl, rfl, rfl, trivial⟩ rfl
  ·have ho := cnd0 ho hb10
   refine mvg (gf0 hb10) rfl rfl rfl <| s_cmp (.g rfl rfl (gf0 hb10)) rfl rfl (.t rfl) (.i (by decide) (by decide)) .lss <| pk0 hb10 rfl (.t rfl) <| mv rfl ?_
   rcases Bool.eq_false_or_eq_true ((decide (p_2 < 0))) with hb11 | hb11
   ·have ho := cnd1 ho hb11
    refine skg (gf1 hb11) rfl rfl <| skg (gf1 hb11) rfl rfl <| skg (gf1 hb11) rfl rfl <| skg (gf1 hb11) rfl rfl <| skg (gf1 hb11) rfl rfl <| pk1 hb11 rfl .b <| mv rfl <| skg rfl rfl rfl <| skg rfl rfl rfl <| skg rfl rfl rfl <| skg rfl rfl rfl <| skg rfl rfl rfl <| pt rfl .b <| mv rfl <| skg rfl rfl rfl <| skg rfl rfl rfl <| skg rfl rfl rfl <| skg rfl rfl rfl <| skg rfl rfl rfl <| skg rfl rfl rfl <| skg rfl rfl rfl ?_
    refine skg rfl rfl rfl <| skg rfl rfl rfl <| skg rfl rfl rfl <| skg rfl rfl rfl <| pt rfl .b ?_
    cases ho
    exact s_nil fun _ _ s => fz () s ⟨rfl, rfl, rfl, rfl, rfl, trivial⟩ rfl
   ·have ho := cnd0 ho hb11
    refine s_fa F31_0 fk_DutyProof_0 (by decide) (.g rfl rfl (gf0 hb11)) rfl rfl (.t rfl) <| ldg U29 (gf0 hb11) rfl rfl rfl <| mvg (gf0 hb11) rfl rfl rfl ?_
    obtain ⟨y12, hy12, ho⟩ := bnd ho
    refine s_calll (g_ref08_rising_ok hy12) (.v flat_bool .n) rfl (.g rfl rfl (gf0 hb11)) rfl rfl rfl .f (.c (.o (.t rfl)) (.c (.o (.t rfl)) .n)) ?_
    show SOps ..
    refine s_not (.g rfl rfl (gf0 hb11)) rfl rfl (.t rfl) <| pk0 hb11 rfl (.t rfl) <| mv rfl ?_
    rcases Bool.eq_false_or_eq_true ((!y12)) with hb13 | hb13
    ·have ho := cnd1 ho hb13
     refine skg (gf1 hb13) rfl rfl <| skg (gf1 hb13) rfl rfl <| skg (gf1 hb13) rfl rfl <| skg (gf1 hb13) rfl rfl <| skg (gf1 hb13) rfl rfl <| pk1 hb13 rfl .b <| mv rfl <| skg rfl rfl rfl <| skg rfl rfl rfl <| skg rfl rfl rfl <| skg rfl rfl rfl <| skg rfl rfl rfl <| skg rfl rfl rfl <| skg rfl rfl rfl <| skg rfl rfl rfl <| skg rfl rfl rfl <| skg rfl rfl rfl <| skg rfl rfl rfl <| pt rfl .b ?_
     cases ho
     exact s_nil fun _ _ s => fz () s ⟨rfl, rfl, rfl, rfl, rfl, trivial⟩ rfl
    ·have ho := cnd0 ho hb13
     refine s_fa F31_1 fk_DutyProof_1 (by decide) (.g rfl rfl (gf0 hb13)) rfl rfl (.t rfl) <| ldg U29 (gf0 hb13) rfl rfl rfl <| mvg (gf0 hb13) rfl rfl rfl ?_
     obtain ⟨y14, hy14, ho⟩ := bnd ho
     refine s_calll (g_ref08_rising_ok hy14) (.v flat_bool .n) rfl (.g rfl rfl (gf0 hb13)) rfl rfl rfl .f (.c (.o (.t rfl)) (.c (.o (.t rfl)) .n)) ?_
     show SOps ..
     refine s_not (.g rfl rfl (gf0 hb13)) rfl rfl (.t rfl) <| pk0 hb13 rfl (.t rfl) <| mv rfl ?_
     rcases Bool.eq_false_or_eq_true ((!y14)) with hb15 | hb15
     ·have ho := cnd1 ho hb15
      refine skg (gf1 hb15) rfl rfl <| skg (gf1 hb15) rfl rfl <| skg (gf1 hb15) rfl rfl <| skg (gf1 hb15) rfl rfl <| skg (gf1 hb15) rfl rfl <| skg (gf1 hb15) rfl rfl <| skg (gf1 hb15) rfl rfl <| skg (gf1 hb15) rfl rfl <| skg (gf1 hb15) rfl rfl <| skg (gf1 hb15) rfl rfl <| skg (gf1 hb15) rfl rfl <| pk1 hb15 rfl .b ?_
      cases ho
      exact s_nil fun _ _ s => fz () s ⟨rfl, rfl, rfl, rfl, rfl, trivial⟩ rfl
     ·have ho := cnd0 ho hb15
      refine s_fa F31_0 fk_DutyProof_0 (by decide) (.g rfl rfl (gf0 hb15)) rfl rfl (.t rfl) <| ldg U29 (gf0 hb15) rfl rfl rfl <| s_len S29 (.g rfl rfl (gf0 hb15)) rfl rfl rfl rfl rfl (.t rfl) <| s_fa F31_1 fk_DutyProof_1 (by decide) (.g rfl rfl (gf0 hb15)) rfl rfl (.t rfl) <| ldg U29 (gf0 hb15) rfl rfl rfl <| s_len S29 (.g rfl rfl (gf0 hb15)) rfl rfl rfl rfl rfl (.t rfl) <| s_ar (.g rfl rfl (gf0 hb15)) rfl rfl (.t rfl) (.t rfl) .add ?_
      refine mvg (gf0 hb15) rfl rfl rfl <| mvg (gf0 hb15) rfl rfl rfl <| s_ar (.g rfl rfl (gf0 hb15)) rfl rfl (.t rfl) (.t rfl) .sub <| s_cmp (.g rfl rfl (gf0 hb15)) rfl rfl (.t rfl) (.t rfl) .gtr <| pk0 hb15 rfl (.t rfl) ?_
      cases ho
      exact s_nil fun _ _ s => fz () s ⟨rfl, rfl, rfl, rfl, rfl, trivial⟩ rfl
 ·intro _
  show SRun ..
  refine ct rfl (fun hq16 => ?_) (fun hq16 => ?_)
  ·have ho := cnd1 ho hq16
   refine rr <| sgb <| nq ?_
   cases ho
   exact r_ret (ret_of (.inr rfl) (.v rfl .n) (by decide))
  ·have ho := cnd0 ho hq16
   refine kq rfl <| r_seq <| rr <| sgc (by decide) <| nq <| r_block ?_
   obtain ⟨t93, ht93, ho⟩ := bnd ho
   refine r_loop (σ := (Int)) (τ := Unit ⊕ (Bool)) (G := List AVal) (fun s g => ([(0, .val (rSlice rTask) (p_0)), (5, .val (rPtr rYard) (p_1)), (7, .val (rPtr rDutyProof) (p_3)), (9, .val (rInt .i64) ((lenI p_0))), (10, .val (rInt .i64) (s))], [])) (altX (fun b => (.exit 0, fun g => ([], []))) (fun b => (.ret, fun g => ([(8, .val rBool (b))], [])))) _ [] ht93 (fun fr h s => s.pick [] ⟨rfl, rfl, rfl, rfl, rfl, trivial⟩ rfl (by decide)) ?_ ?_ ?_
   ·intro t
    rcases t with t | t
    ·exact nx
    ·exact nr
   ·clear ho
    intro s54 g55 r94 ho
    refine r_seq <| rr <| mv rfl <| mv rfl <| cm rfl rfl .lss <| nq <| ct rfl (fun hq56 => ?_) (fun hq56 => ?_)
    ·have ho := cnd1 ho hq56
     refine kq rfl <| r_seq <| r_block <| rr <| sgc (by decide) <| nq <| r_block ?_
     obtain ⟨t87, ht87, ho⟩ := bnd ho
     refine r_loop (σ := (Int)) (τ := Unit ⊕ (Bool)) (G := List AVal) (fun s g => ([(0, .val (rSlice rTask) (p_0)), (5, .val (rPtr rYard) (p_1)), (7, .val (rPtr rDutyProof) (p_3)), (9, .val (rInt .i64) ((lenI p_0))), (10, .val (rInt .i64) (s54)), (11, .val (rInt .i64) (s))], [])) (altX (fun b => (.exit 2, fun g => ([(0, .val (rSlice rTask) (p_0)), (5, .val (rPtr rYard) (p_1)), (7, .val (rPtr rDutyProof) (p_3)), (9, .val (rInt .i64) ((lenI p_0))), (10, .val (rInt .i64) (s54))], []))) (fun b => (.ret, fun g => ([(8, .val rBool (b))], [])))) _ [] ht87 (fun fr h s => s.pick [] ⟨rfl, rfl, rfl, rfl, rfl, rfl, trivial⟩ rfl (by decide)) ?_ ?_ ?_
     ·intro t
      rcases t with t | t
      ·exact nx
      ·exact nr
     ·clear ho
      intro s71 g72 r88 ho
      refine r_seq <| rr <| mv rfl <| mv rfl <| cm rfl rfl .lss <| nq <| ct rfl (fun hq73 => ?_) (fun hq73 => ?_)
      ·have ho := cnd1 ho hq73
       refine kq rfl <| r_seq <| r_block <| rr <| mv rfl <| ld U26 rfl <| mv rfl <| mv rfl ?_
       obtain ⟨y79, hy79, ho⟩ := bnd ho
       refine s_calll (g_ref08_Follows_ok hy79) (.v flat_bool .n) rfl (.n rfl) rfl rfl rfl .f (.c (.o (.t rfl)) (.c (.o (.t rfl)) (.c (.o (.t rfl)) (.c (.o (.t rfl)) .n)))) ?_
       show SOps ..
       refine mv rfl ?_
       rcases Bool.eq_false_or_eq_true (y79) with hb80 | hb80
       ·have ho := cnd1 ho hb80
        refine s_fa F31_0 fk_DutyProof_0 (by decide) (.g rfl rfl (gt1 hb80)) rfl rfl (.t rfl) <| ldg U29 (gt1 hb80) rfl rfl rfl <| mvg (gt1 hb80) rfl rfl rfl ?_
        obtain ⟨y81, hy81, ho⟩ := bnd ho
        refine s_calll (g_ref08_has_ok hy81) (.v flat_bool .n) rfl (.g rfl rfl (gt1 hb80)) rfl rfl rfl .f (.c (.o (.t rfl)) (.c (.o (.t rfl)) .n)) ?_
        show SOps ..
        refine s_not (.g rfl rfl (gt1 hb80)) rfl rfl (.t rfl) <| pk1 hb80 rfl (.t rfl) <| mv rfl ?_
        rcases Bool.eq_false_or_eq_true ((!y81)) with hb82 | hb82
        ·have ho := cnd1 ho hb82
         refine s_fa F31_1 fk_DutyProof_1 (by decide) (.g rfl rfl (gt1 hb82)) rfl rfl (.t rfl) <| ldg U29 (gt1 hb82) rfl rfl rfl <| mvg (gt1 hb82) rfl rfl rfl ?_
         obtain ⟨y83, hy83, ho⟩ := bnd ho
         refine s_calll (g_ref08_has_ok hy83) (.v flat_bool .n) rfl (.g rfl rfl (gt1 hb82)) rfl rfl rfl .f (.c (.o (.t rfl)) (.c (.o (.t rfl)) .n)) ?_
         show SOps ..
         refine s_not (.g rfl rfl (gt1 hb82)) rfl rfl (.t rfl) <| pk1 hb82 rfl (.t rfl) <| nq <| ct rfl (fun hq84 => ?_) (fun hq84 => ?_)
         ·have ho := cnd1 ho hq84
          refine rr <| sgb <| nq ?_
          cases ho
          exact r_ret fun _ _ s => fz [] s ⟨rfl, trivial⟩ rfl
         ·have ho := cnd0 ho hq84
          refine kq rfl <| r_region <| mv rfl <| arc rfl (by decide) .add <| sg rfl ?_
          cases ho
          exact s_nil fun _ _ s => fz [] s ⟨rfl, rfl, rfl, rfl, rfl, rfl, trivial⟩ rfl
        ·have ho := cnd0 ho hb82
         refine skg (gt0 hb82) rfl rfl <| skg (gt0 hb82) rfl rfl <| skg (gt0 hb82) rfl rfl <| skg (gt0 hb82) rfl rfl <| skg (gt0 hb82) rfl rfl <| pk0 hb82 rfl .b <| nq <| ct rfl (fun hq => by cases hq) (fun _ => ?_)
         refine kq rfl <| r_region <| mv rfl <| arc rfl (by decide) .add <| sg rfl ?_
         cases ho
         exact s_nil fun _ _ s => fz [] s ⟨rfl, rfl, rfl, rfl, rfl, rfl, trivial⟩ rfl
       ·have ho := cnd0 ho hb80
        refine skg (gt0 hb80) rfl rfl <| skg (gt0 hb80) rfl rfl <| skg (gt0 hb80) rfl rfl <| skg (gt0 hb80) rfl rfl <| skg (gt0 hb80) rfl rfl <| pk0 hb80 rfl .b <| mv rfl <| skg rfl rfl rfl <| skg rfl rfl rfl <| skg rfl rfl rfl <| skg rfl rfl rfl <| skg rfl rfl rfl <| s_pick0 (.n rfl) rfl rfl (.t rfl) .b <| nq <| ct rfl (fun hq => by cases hq) (fun _ => ?_)
        refine kq rfl <| r_region <| mv rfl <| arc rfl (by decide) .add <| sg rfl ?_
        cases ho
        exact s_nil fun _ _ s => fz [] s ⟨rfl, rfl, rfl, rfl, rfl, rfl, trivial⟩ rfl
      ·have ho := cnd0 ho hq73
       cases ho
       exact r_exit fun _ _ s => fz [] s ⟨rfl, rfl, rfl, rfl, rfl, trivial⟩ rfl
     ·clear ht87
      rcases t87 with b89 | b90
      ·have ho := alt_l ho
       intro g91
       show ∀ fr h, St _ [(0, .val (rSlice rTask) (p_0)), (5, .val (rPtr rYard) (p_1)), (7, .val (rPtr rDutyProof) (p_3)), (9, .val (rInt .i64) ((lenI p_0))), (10, .val (rInt .i64) (s54))] [] fr h → _
       show SRun ..
       refine r_region <| mv rfl <| arc rfl (by decide) .add <| sg rfl ?_
       cases ho
       exact s_nil fun _ _ s => fz [] s ⟨rfl, rfl, rfl, rfl, rfl, trivial⟩ rfl
      ·have ho := alt_r ho
       intro g92
       show ∀ fr h, St _ [(8, .val rBool (b90))] [] fr h → _
       cases ho
       exact id fun _ _ s => fz [] s ⟨rfl, trivial⟩ rfl
    ·have ho := cnd0 ho hq56
     cases ho
     exact r_exit fun _ _ s => fz [] s trivial rfl
   ·clear ht93
    rcases t93 with b95 | b96
    ·have ho := alt_l ho
     intro g97
     show ∀ fr h, St _ [] [] fr h → _
     show SRun ..
     refine rr <| sgb <| nq ?_
     cases ho
     exact r_ret (ret_of (.inr rfl) (.v rfl .n) (by decide))
    ·have ho := alt_r ho
     intro g98
     show ∀ fr h, St _ [(8, .val rBool (b96))] [] fr h → _
     cases ho
     exact id (ret_of (.inr rfl) (.v rfl .n) (by decide))
theorem g_law08_DutyFewest_ok {p_0 : (List Task)} {p_1 : Yard} {p_2 : (List (List Int))} {p_3 : Int} {p_4 : DutyProof} {out : (Bool)} (ho : g_law08_DutyFewest p_0 p_1 p_2 p_3 p_4 = some out) : Fun ktab 11 [.val (rSlice rTask) p_0, .val rYard p_1, .val (rSlice (rSlice (rInt .i64))) p_2, .val (rInt .i64) p_3, .val rDutyProof p_4] [.val rBool (out)] := by
 refine fun_of (F := Try.f11) (by rfl) (by rfl) (by rfl) (fun C hC => ?_)
 delta g_law08_DutyFewest at ho
 refine rr <| bx rfl <| bx rfl <| sgb <| nq <| r_seq <| r_seq ?_
 obtain ⟨c7, hc7, ho⟩ := bnd ho
 refine r_cut (τ := (Bool)) (G := Unit) (fun t => (.normal, fun _ => ([(0, .val (rSlice rTask) (p_0)), (2, .val (rSlice (rSlice (rInt .i64))) (p_2)), (3, .val (rInt .i64) (p_3)), (6, .val (rPtr rYard) (p_1)), (9, .val (rPtr rDutyProof) (p_4)), (41, .val rBool (t))], []))) (t := c7) ?_ ?_
 ·have ho := hc7
  clear hc7
  refine r_region <| mv rfl <| ld U26 rfl ?_
  obtain ⟨y8, hy8, ho⟩ := bnd ho
  refine s_calll (g_law08_few_ok hy8) (.v flat_bool .n) rfl (.n rfl) rfl rfl rfl .f (.c (.o (.t rfl)) (.c (.o (.t rfl)) (.c (.o (.i (by decide) (by decide))) .n))) ?_
  show SOps ..
  refine s_not (.n rfl) rfl rfl (.t rfl) <| mv rfl ?_
  rcases Bool.eq_false_or_eq_true ((!y8)) with hb9 | hb9
  ·have ho := cnd1 ho hb9
   refine skg (gf1 hb9) rfl rfl <| skg (gf1 hb9) rfl rfl <| skg (gf1 hb9) rfl rfl <| skg (gf1 hb9) rfl rfl <| pk1 hb9 rfl .b <| mv rfl <| skg rfl rfl rfl <| skg rfl rfl rfl <| skg rfl rfl rfl <| pt rfl .b <| mv rfl <| skg rfl rfl rfl <| skg rfl rfl rfl <| skg rfl rfl rfl <| skg rfl rfl rfl <| pt rfl .b <| mv rfl <| skg rfl rfl rfl <| skg rfl rfl rfl <| skg rfl rfl rfl <| skg rfl rfl rfl <| pt rfl .b ?_
   cases ho
   exact s_nil fun _ _ s => fz () s ⟨rfl, rfl, rfl, rfl, rfl, rfl, trivial⟩ rfl
  ·have ho := cnd0 ho hb9
   refine mvg (gf0 hb9) rfl rfl rfl <| ldg U26 (gf0 hb9) rfl rfl rfl ?_
   obtain ⟨y10, hy10, ho⟩ := bnd ho
   refine s_calll (g_ref08_Fine_ok hy10) (.v flat_bool .n) rfl (.g rfl rfl (gf0 hb9)) rfl rfl rfl .f (.c (.o (.t rfl)) (.c (.o (.t rfl)) .n)) ?_
   show SOps ..
   refine s_not (.g rfl rfl (gf0 hb9)) rfl rfl (.t rfl) <| pk0 hb9 rfl (.t rfl) <| mv rfl ?_
   rcases Bool.eq_false_or_eq_true ((!y10)) with hb11 | hb11
   ·have ho := cnd1 ho hb11
    refine skg (gf1 hb11) rfl rfl <| skg (gf1 hb11) rfl rfl <| skg (gf1 hb11) rfl rfl <| pk1 hb11 rfl .b <| mv rfl <| skg rfl rfl rfl <| skg rfl rfl rfl <| skg rfl rfl rfl <| skg rfl rfl rfl <| pt rfl .b <| mv rfl <| skg rfl rfl rfl <| skg rfl rfl rfl <| skg rfl rfl rfl <| skg rfl rfl rfl <| pt rfl .b ?_
    cases ho
    exact s_nil fun _ _ s => fz () s ⟨rfl, rfl, rfl, rfl, rfl, rfl, trivial⟩ rfl
   ·have ho := cnd0 ho hb11
    refine mvg (gf0 hb11) rfl rfl rfl <| s_len S23 (.g rfl rfl (gf0 hb11)) rfl rfl rfl rfl rfl (.t rfl) <| s_cmp (.g rfl rfl (gf0 hb11)) rfl rfl (.t rfl) (.i (by decide) (by decide)) .gtr <| pk0 hb11 rfl (.t rfl) <| mv rfl ?_
    rcases Bool.eq_false_or_eq_true ((decide ((lenI p_2) > 80))) with hb12 | hb12
    ·have ho := cnd1 ho hb12
     refine skg (gf1 hb12) rfl rfl <| skg (gf1 hb12) rfl rfl <| skg (gf1 hb12) rfl rfl <| skg (gf1 hb12) rfl rfl <| pk1 hb12 rfl .b <| mv rfl <| skg rfl rfl rfl <| skg rfl rfl rfl <| skg rfl rfl rfl <| skg rfl rfl rfl <| pt rfl .b ?_
     cases ho
     exact s_nil fun _ _ s => fz () s ⟨rfl, rfl, rfl, rfl, rfl, rfl, trivial⟩ rfl
    ·have ho := cnd0 ho hb12
     refine s_fa F31_0 fk_DutyProof_0 (by decide) (.g rfl rfl (gf0 hb12)) rfl rfl (.t rfl) <| ldg U29 (gf0 hb12) rfl rfl rfl <| s_len S29 (.g rfl rfl (gf0 hb12)) rfl rfl rfl rfl rfl (.t rfl) <| s_cmp (.g rfl rfl (gf0 hb12)) rfl rfl (.t rfl) (.i (by decide) (by decide)) .gtr <| pk0 hb12 rfl (.t rfl) <| mv rfl ?_
     rcases Bool.eq_false_or_eq_true ((decide ((lenI p_4.1) > 80))) with hb13 | hb13
     ·have ho := cnd1 ho hb13
      refine skg (gf1 hb13) rfl rfl <| skg (gf1 hb13) rfl rfl <| skg (gf1 hb13) rfl rfl <| skg (gf1 hb13) rfl rfl <| pk1 hb13 rfl .b ?_
      cases ho
      exact s_nil fun _ _ s => fz () s ⟨rfl, rfl, rfl, rfl, rfl, rfl, trivial⟩ rfl
     ·have ho := cnd0 ho hb13
      refine s_fa F31_1 fk_DutyProof_1 (by decide) (.g rfl rfl (gf0 hb13)) rfl rfl (.t rfl) <| ldg U29 (gf0 hb13) rfl rfl rfl <| s_len S29 (.g rfl rfl (gf0 hb13)) rfl rfl rfl rfl rfl (.t rfl) <| s_cmp (.g rfl rfl (gf0 hb13)) rfl rfl (.t rfl) (.i (by decide) (by decide)) .gtr <| pk0 hb13 rfl (.t rfl) ?_
      cases ho
      exact s_nil fun _ _ s => fz () s ⟨rfl, rfl, rfl, rfl, rfl, rfl, trivial⟩ rfl
 ·intro _
  show SRun ..
  refine ct rfl (fun hq14 => ?_) (fun hq14 => ?_)
  ·have ho := cnd1 ho hq14
   refine rr ?_
   obtain ⟨y15, hy15, ho⟩ := bnd ho
   refine s_calll (g_law08_known_ok hy15) (.v flat_bool .n) rfl (.n rfl) rfl rfl rfl .f .n ?_
   show SOps ..
   refine sg rfl <| nq ?_
   cases ho
   exact r_ret (ret_of (.inr rfl) (.v rfl .n) (by decide))
  ·have ho := cnd0 ho hq14
   refine kq rfl <| r_seq <| rr <| sgc (by decide) <| nq <| r_block ?_
   obtain ⟨t26, ht26, ho⟩ := bnd ho
   refine r_loop (σ := (Int)) (τ := Unit ⊕ (Bool)) (G := List AVal) (fun s g => ([(0, .val (rSlice rTask) (p_0)), (2, .val (rSlice (rSlice (rInt .i64))) (p_2)), (3, .val (rInt .i64) (p_3)), (6, .val (rPtr rYard) (p_1)), (9, .val (rPtr rDutyProof) (p_4)), (11, .val (rInt .i64) (s))], [])) (altX (fun b => (.exit 0, fun g => ([(0, .val (rSlice rTask) (p_0)), (2, .val (rSlice (rSlice (rInt .i64))) (p_2)), (3, .val (rInt .i64) (p_3)), (6, .val (rPtr rYard) (p_1)), (9, .val (rPtr rDutyProof) (p_4))], []))) (fun b => (.ret, fun g => ([(10, .val rBool (b))], [])))) _ [] ht26 (fun fr h s => s.pick [] ⟨rfl, rfl, rfl, rfl, rfl, rfl, trivial⟩ rfl (by decide)) ?_ ?_ ?_
   ·intro t
    rcases t with t | t
    ·exact nx
    ·exact nr
   ·clear ho
    intro s20 g21 r27 ho
    refine r_seq <| rr <| mv rfl <| mv rfl <| ln S23 rfl rfl rfl (.t rfl) <| cm rfl rfl .lss <| nq <| ct rfl (fun hq22 => ?_) (fun hq22 => ?_)
    ·have ho := cnd1 ho hq22
     refine kq rfl <| r_seq <| r_block <| rr <| mv rfl <| mv rfl ?_
     obtain ⟨x23, hx23, ho⟩ := bnd ho
     refine ix S23 hx23 rfl rfl <| ld U29 rfl <| ln S29 rfl rfl rfl (.t rfl) <| cmc rfl (by decide) .gtr <| nq <| ct rfl (fun hq24 => ?_) (fun hq24 => ?_)
     ·have ho := cnd1 ho hq24
      refine rr ?_
      obtain ⟨y25, hy25, ho⟩ := bnd ho
      refine s_calll (g_law08_known_ok hy25) (.v flat_bool .n) rfl (.n rfl) rfl rfl rfl .f .n ?_
      show SOps ..
      refine sg rfl <| nq ?_
      cases ho
      exact r_ret fun _ _ s => fz [] s ⟨rfl, trivial⟩ rfl
     ·have ho := cnd0 ho hq24
      refine kq rfl <| r_region <| mv rfl <| arc rfl (by decide) .add <| sg rfl ?_
      cases ho
      exact s_nil fun _ _ s => fz [] s ⟨rfl, rfl, rfl, rfl, rfl, rfl, trivial⟩ rfl
    ·have ho := cnd0 ho hq22
     cases ho
     exact r_exit fun _ _ s => fz [] s ⟨rfl, rfl, rfl, rfl, rfl, trivial⟩ rfl
   ·clear ht26
    rcases t26 with b28 | b29
    ·have ho := alt_l ho
     intro g30
     show ∀ fr h, St _ [(0, .val (rSlice rTask) (p_0)), (2, .val (rSlice (rSlice (rInt .i64))) (p_2)), (3, .val (rInt .i64) (p_3)), (6, .val (rPtr rYard) (p_1)), (9, .val (rPtr rDutyProof) (p_4))] [] fr h → _
     show SRun ..
     refine rr <| mv rfl <| ld U26 rfl ?_
     obtain ⟨y31, hy31, ho⟩ := bnd ho
     refine s_call (pre := []) (post := []) (vs := []) (g_duty_Cars_ok hy31) rfl (.n rfl) rfl rfl rfl .f (.c (.t rfl) (.c (.t rfl) .n)) ?_
     intro v32
     show SOps ..
     refine mv rfl <| ext rfl rfl <| ext rfl rfl <| ext rfl rfl <| s_alloc (zv := .agg [.nilslice, .nilslice]) (es := [.val (rSlice (rInt .i64)) ([]), .val (rSlice (rInt .i64)) ([])]) (by kernel_rfl) (fun _ => (oknil (oknil okn))) rfl (.n rfl) rfl rfl ?_
     intro b34
     refine sg rfl <| s_storebs 0 U31 rfl (c1 rfl (c1 rfl cells_unit)) (by rfl) (.n rfl) rfl rfl (.t rfl) (.t rfl) (by rfl) <| s_st (st_freezeb (R := rDutyProof) (a := y31.2.1) 0 [13] (c1 rfl (c1 rfl cells_unit)) rfl rfl ⟨rfl, trivial⟩) ?_
     refine sg rfl <| nq <| r_seq <| r_seq ?_
     obtain ⟨c42, hc42, ho⟩ := bnd ho
     refine r_cut (τ := (Bool)) (G := Unit) (fun t => (.normal, fun _ => ([(0, .val (rSlice rTask) (p_0)), (2, .val (rSlice (rSlice (rInt .i64))) (p_2)), (3, .val (rInt .i64) (p_3)), (6, .val (rPtr rYard) (p_1)), (9, .val (rPtr rDutyProof) (p_4)), (12, .raw v32), (89, .val rBool (t))], [(v32, .row (rSlice (rInt .i64)) (y31.1))]))) (t := c42) ?_ ?_
     ·have ho := hc42
      clear hc42
      refine r_region <| mv rfl <| cmc rfl (by decide) .neq <| mv rfl ?_
      rcases Bool.eq_false_or_eq_true ((y31.2.2 != 0)) with hb43 | hb43
      ·have ho := cnd1 ho hb43
       refine skg (gf1 hb43) rfl rfl <| skg (gf1 hb43) rfl rfl <| skg (gf1 hb43) rfl rfl <| skg (gf1 hb43) rfl rfl <| skg (gf1 hb43) rfl rfl <| pk1 hb43 rfl .b <| mv rfl <| skg rfl rfl rfl <| skg rfl rfl rfl <| skg rfl rfl rfl <| skg rfl rfl rfl <| skg rfl rfl rfl <| skg rfl rfl rfl <| skg rfl rfl rfl <| pt rfl .b <| mv rfl <| skg rfl rfl rfl <| skg rfl rfl rfl <| skg rfl rfl rfl <| skg rfl rfl rfl <| skg rfl rfl rfl ?_
       refine skg rfl rfl rfl <| skg rfl rfl rfl <| pt rfl .b ?_
       cases ho
       exact s_nil (fun fr h s => And.intro rfl (Exists.intro () (s.pick [0] ⟨rfl, rfl, rfl, rfl, rfl, rfl, rfl, trivial⟩ rfl (by decide))))
      ·have ho := cnd0 ho hb43
       refine mvg (gf0 hb43) rfl rfl rfl <| ldg U26 (gf0 hb43) rfl rfl rfl <| mvg (gf0 hb43) rfl rfl rfl ?_
       obtain ⟨y44, hy44, ho⟩ := bnd ho
       refine s_calll (g_ref08_Plan_ok hy44) (.v flat_bool .n) rfl (.g rfl rfl (gf0 hb43)) rfl rfl rfl .f (.c (.o (.t rfl)) (.c (.o (.t rfl)) (.c (.r 0 (.t rfl) rfl) .n))) ?_
       show SOps ..
       refine s_not (.g rfl rfl (gf0 hb43)) rfl rfl (.t rfl) <| pk0 hb43 rfl (.t rfl) <| mv rfl ?_
       rcases Bool.eq_false_or_eq_true ((!y44)) with hb45 | hb45
       ·have ho := cnd1 ho hb45
        refine skg (gf1 hb45) rfl rfl <| skg (gf1 hb45) rfl rfl <| skg (gf1 hb45) rfl rfl <| skg (gf1 hb45) rfl rfl <| skg (gf1 hb45) rfl rfl <| skg (gf1 hb45) rfl rfl <| skg (gf1 hb45) rfl rfl <| pk1 hb45 rfl .b <| mv rfl <| skg rfl rfl rfl <| skg rfl rfl rfl <| skg rfl rfl rfl <| skg rfl rfl rfl <| skg rfl rfl rfl <| skg rfl rfl rfl <| skg rfl rfl rfl <| pt rfl .b ?_
        cases ho
        exact s_nil (fun fr h s => And.intro rfl (Exists.intro () (s.pick [0] ⟨rfl, rfl, rfl, rfl, rfl, rfl, rfl, trivial⟩ rfl (by decide))))
       ·have ho := cnd0 ho hb45
        refine mvg (gf0 hb45) rfl rfl rfl <| ldg U26 (gf0 hb45) rfl rfl rfl <| mvg (gf0 hb45) rfl rfl rfl <| s_leno 0 S23 (.g rfl rfl (gf0 hb45)) rfl rfl rfl rfl rfl (.t rfl) rfl <| ldg U31 (gf0 hb45) rfl rfl rfl ?_
        obtain ⟨y46, hy46, ho⟩ := bnd ho
        refine s_calll (g_duty_Proves_ok hy46) (.v flat_bool .n) rfl (.g rfl rfl (gf0 hb45)) rfl rfl rfl .f (.c (.o (.t rfl)) (.c (.o (.t rfl)) (.c (.o (.t rfl)) (.c (.o (.t rfl)) .n)))) ?_
        show SOps ..
        refine s_not (.g rfl rfl (gf0 hb45)) rfl rfl (.t rfl) <| pk0 hb45 rfl (.t rfl) <| mv rfl ?_
        rcases Bool.eq_false_or_eq_true ((!y46)) with hb47 | hb47
        ·have ho := cnd1 ho hb47
         refine skg (gf1 hb47) rfl rfl <| skg (gf1 hb47) rfl rfl <| skg (gf1 hb47) rfl rfl <| skg (gf1 hb47) rfl rfl <| skg (gf1 hb47) rfl rfl <| skg (gf1 hb47) rfl rfl <| skg (gf1 hb47) rfl rfl <| pk1 hb47 rfl .b ?_
         cases ho
         exact s_nil (fun fr h s => And.intro rfl (Exists.intro () (s.pick [0] ⟨rfl, rfl, rfl, rfl, rfl, rfl, rfl, trivial⟩ rfl (by decide))))
        ·have ho := cnd0 ho hb47
         refine mvg (gf0 hb47) rfl rfl rfl <| ldg U26 (gf0 hb47) rfl rfl rfl <| mvg (gf0 hb47) rfl rfl rfl <| s_leno 0 S23 (.g rfl rfl (gf0 hb47)) rfl rfl rfl rfl rfl (.t rfl) rfl <| ldg U31 (gf0 hb47) rfl rfl rfl ?_
         obtain ⟨y48, hy48, ho⟩ := bnd ho
         refine s_calll (g_ref08_Proves_ok hy48) (.v flat_bool .n) rfl (.g rfl rfl (gf0 hb47)) rfl rfl rfl .f (.c (.o (.t rfl)) (.c (.o (.t rfl)) (.c (.o (.t rfl)) (.c (.o (.t rfl)) .n)))) ?_
         show SOps ..
         refine s_not (.g rfl rfl (gf0 hb47)) rfl rfl (.t rfl) <| pk0 hb47 rfl (.t rfl) ?_
         cases ho
         exact s_nil (fun fr h s => And.intro rfl (Exists.intro () (s.pick [0] ⟨rfl, rfl, rfl, rfl, rfl, rfl, rfl, trivial⟩ rfl (by decide))))
     ·intro _
      show SRun ..
      refine ct rfl (fun hq49 => ?_) (fun hq49 => ?_)
      ·have ho := cnd1 ho hq49
       refine rr <| sgb <| nq ?_
       cases ho
       exact r_ret (ret_of (.inr rfl) (.v rfl .n) (by decide))
      ·have ho := cnd0 ho hq49
       refine kq rfl <| r_seq <| r_seq ?_
       obtain ⟨c52, hc52, ho⟩ := bnd ho
       refine r_cut (τ := (Bool)) (G := Unit) (fun t => (.normal, fun _ => ([(0, .val (rSlice rTask) (p_0)), (3, .val (rInt .i64) (p_3)), (6, .val (rPtr rYard) (p_1)), (9, .val (rPtr rDutyProof) (p_4)), (12, .raw v32), (100, .val rBool (t))], [(v32, .row (rSlice (rInt .i64)) (y31.1))]))) (t := c52) ?_ ?_
       ·have ho := hc52
        clear hc52
        refine r_region <| mv rfl <| ld U26 rfl <| mv rfl ?_
        obtain ⟨y53, hy53, ho⟩ := bnd ho
        refine s_calll (g_ref08_Plan_ok hy53) (.v flat_bool .n) rfl (.n rfl) rfl rfl rfl .f (.c (.o (.t rfl)) (.c (.o (.t rfl)) (.c (.o (.t rfl)) .n))) ?_
        show SOps ..
        refine mv rfl ?_
        rcases Bool.eq_false_or_eq_true (y53) with hb54 | hb54
        ·have ho := cnd1 ho hb54
         refine mvg (gt1 hb54) rfl rfl rfl <| s_len S23 (.g rfl rfl (gt1 hb54)) rfl rfl rfl rfl rfl (.t rfl) <| mvg (gt1 hb54) rfl rfl rfl <| s_leno 0 S23 (.g rfl rfl (gt1 hb54)) rfl rfl rfl rfl rfl (.t rfl) rfl <| s_cmp (.g rfl rfl (gt1 hb54)) rfl rfl (.t rfl) (.t rfl) .lss <| pk1 hb54 rfl (.t rfl) ?_
         cases ho
         exact s_nil (fun fr h s => And.intro rfl (Exists.intro () (s.pick [0] ⟨rfl, rfl, rfl, rfl, rfl, rfl, trivial⟩ rfl (by decide))))
        ·have ho := cnd0 ho hb54
         refine skg (gt0 hb54) rfl rfl <| skg (gt0 hb54) rfl rfl <| skg (gt0 hb54) rfl rfl <| skg (gt0 hb54) rfl rfl <| skg (gt0 hb54) rfl rfl <| pk0 hb54 rfl .b ?_
         cases ho
         exact s_nil (fun fr h s => And.intro rfl (Exists.intro () (s.pick [0] ⟨rfl, rfl, rfl, rfl, rfl, rfl, trivial⟩ rfl (by decide))))
       ·intro _
        show SRun ..
        refine ct rfl (fun hq55 => ?_) (fun hq55 => ?_)
        ·have ho := cnd1 ho hq55
         refine rr <| sgb <| nq ?_
         cases ho
         exact r_ret (ret_of (.inr rfl) (.v rfl .n) (by decide))
        ·have ho := cnd0 ho hq55
         refine kq rfl <| r_seq ?_
         obtain ⟨c61, hc61, ho⟩ := bnd ho
         refine r_cut (τ := (Bool)) (G := Unit) (fun t => (.normal, fun _ => ([(10, .val rBool (t))], [(v32, .row (rSlice (rInt .i64)) (y31.1))]))) (t := c61) ?_ ?_
         ·have ho := hc61
          clear hc61
          refine r_region <| mv rfl <| ld U26 rfl <| mv rfl <| ld U31 rfl ?_
          obtain ⟨y62, hy62, ho⟩ := bnd ho
          refine s_calll (g_duty_Proves_ok hy62) (.v flat_bool .n) rfl (.n rfl) rfl rfl rfl .f (.c (.o (.t rfl)) (.c (.o (.t rfl)) (.c (.o (.t rfl)) (.c (.o (.t rfl)) .n)))) ?_
          show SOps ..
          refine s_not (.n rfl) rfl rfl (.t rfl) <| mv rfl ?_
          rcases Bool.eq_false_or_eq_true ((!y62)) with hb63 | hb63
          ·have ho := cnd1 ho hb63
           refine skg (gf1 hb63) rfl rfl <| skg (gf1 hb63) rfl rfl <| skg (gf1 hb63) rfl rfl <| skg (gf1 hb63) rfl rfl <| pk1 hb63 rfl .b <| mv rfl ?_
           obtain ⟨y64, hy64, ho⟩ := bnd ho
           refine s_calll (g_law08_known_ok hy64) (.v flat_bool .n) rfl (.g rfl rfl rfl) rfl rfl rfl .f .n ?_
           show SOps ..
           refine pt rfl (.t rfl) <| sg rfl ?_
           cases ho
           exact s_nil (fun fr h s => And.intro rfl (Exists.intro () (s.pick [0] ⟨rfl, trivial⟩ rfl (by decide))))
          ·have ho := cnd0 ho hb63
           refine mvg (gf0 hb63) rfl rfl rfl <| mvg (gf0 hb63) rfl rfl rfl <| s_leno 0 S23 (.g rfl rfl (gf0 hb63)) rfl rfl rfl rfl rfl (.t rfl) rfl <| s_cmp (.g rfl rfl (gf0 hb63)) rfl rfl (.t rfl) (.t rfl) .leq <| pk0 hb63 rfl (.t rfl) <| mv rfl ?_
           rcases Bool.eq_false_or_eq_true ((decide (p_3 ≤ (lenI y31.1)))) with hb65 | hb65
           ·have ho := cnd1 ho hb65
            obtain ⟨y66, hy66, ho⟩ := bnd ho
            refine s_calll (g_law08_known_ok hy66) (.v flat_bool .n) rfl (.g rfl rfl (gt1 hb65)) rfl rfl rfl .f .n ?_
            show SOps ..
            refine pk1 hb65 rfl (.t rfl) <| sg rfl ?_
            cases ho
            exact s_nil (fun fr h s => And.intro rfl (Exists.intro () (s.pick [0] ⟨rfl, trivial⟩ rfl (by decide))))
           ·have ho := cnd0 ho hb65
            refine skg (gt0 hb65) rfl rfl <| pk0 hb65 rfl .b <| sg rfl ?_
            cases ho
            exact s_nil (fun fr h s => And.intro rfl (Exists.intro () (s.pick [0] ⟨rfl, trivial⟩ rfl (by decide))))
         ·intro _
          show SRun ..
          cases ho
          exact r_ret (ret_of (.inr rfl) (.v rfl .n) (by decide))
    ·have ho := alt_r ho
     intro g67
     show ∀ fr h, St _ [(10, .val rBool (b29))] [] fr h → _
     cases ho
     exact id (ret_of (.inr rfl) (.v rfl .n) (by decide))
end Go.Ai.TabYtdhenjdmpacklaa
