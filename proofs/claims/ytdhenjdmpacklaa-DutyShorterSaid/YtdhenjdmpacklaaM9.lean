/- Written by program: walks through functions. -/
import Derived.Test.YtdhenjdmpacklaaWalkknownP0C
namespace Go.Ai.TabYtdhenjdmpacklaa
open Go Go.Ai Go.Ai.Sx Go.Proofs
attribute [local irreducible] SOps
set_option maxRecDepth 100000
theorem g_slices_symMergeCmpFunc_duty_option_body_ok  {rec : (List duty_option) → Int → Int → Int → ((duty_option × duty_option) → Option (Int)) → Option ((List duty_option))}  (hrec : ∀ {p_0 : (List duty_option)} {p_1 : Int} {p_2 : Int} {p_3 : Int} {p_4 : ((duty_option × duty_option) → Option (Int))} {out : ((List duty_option))}, rec p_0 p_1 p_2 p_3 p_4 = some out → ∀ (v_0 : AVal), FunM ktab 96 [.raw v_0, .val (rInt .i64) p_1, .val (rInt .i64) p_2, .val (rInt .i64) p_3, .val (rFn ktab (duty_option × duty_option) (Int) (fun x => [.val rduty_option (x.1), .val rduty_option (x.2)]) (fun y => [.val (rInt .i64) (y)])) p_4] [(v_0, .row rduty_option (p_0))] [] (fun γ => [(v_0, .row rduty_option (out))])) {p_0 : (List duty_option)} {p_1 : Int} {p_2 : Int} {p_3 : Int} {p_4 : ((duty_option × duty_option) → Option (Int))} {out : ((List duty_option))} (ho : g_slices_symMergeCmpFunc_duty_option_body rec p_0 p_1 p_2 p_3 p_4 = some out) (v_0 : AVal) : FunM ktab 96 [.raw v_0, .val (rInt .i64) p_1, .val (rInt .i64) p_2, .val (rInt .i64) p_3, .val (rFn ktab (duty_option × duty_option) (Int) (fun x => [.val rduty_option (x.1), .val rduty_option (x.2)]) (fun y => [.val (rInt .i64) (y)])) p_4] [(v_0, .row rduty_option (p_0))] [] (fun γ => [(v_0, .row rduty_option (out))]) := by
 refine funm_of (F := Try.f96) (by rfl) (by rfl) (by rfl) (fun C => ?_)
 delta g_slices_symMergeCmpFunc_duty_option_body at ho
 refine r_seq <| rr <| mv rfl <| mv rfl <| ar rfl rfl .sub <| cmc rfl (by decide) .eql <| nq <| ct rfl (fun hq1 => ?_) (fun hq1 => ?_)
 ·have ho := cnd1 ho hq1
  refine rr <| mv rfl <| sg rfl <| nq <| rr <| mv rfl <| sg rfl <| nq <| r_seq <| r_block ?_
  obtain ⟨t16, ht16, ho⟩ := bnd ho
  refine r_loop (σ := (Int × Int)) (τ := (Int)) (G := List AVal) (fun s g => ([(0, .raw v_0), (1, .val (rInt .i64) (p_1)), (4, .val (rFn ktab (duty_option × duty_option) (Int) (fun x => [.val rduty_option (x.1), .val rduty_option (x.2)]) (fun y => [.val (rInt .i64) (y)])) (p_4)), (10, .val (rInt .i64) (s.1)), (11, .val (rInt .i64) (s.2))], [(v_0, .row rduty_option (p_0))])) (fun b => (.exit 0, fun g => ([(0, .raw v_0), (1, .val (rInt .i64) (p_1)), (10, .val (rInt .i64) (b))], [(v_0, .row rduty_option (p_0))]))) _ [] ht16 (fun fr h s => s.pick [0] ⟨rfl, rfl, rfl, rfl, rfl, trivial⟩ rfl (by decide)) ?_ ?_ ?_
  ·intro t
   exact nx
  ·clear ho
   intro s8 g9 r17 ho
   refine r_seq <| rr <| mv rfl <| mv rfl <| cm rfl rfl .lss <| nq <| ct rfl (fun hq10 => ?_) (fun hq10 => ?_)
   ·have ho := cnd1 ho hq10
    refine kq rfl <| r_block <| rr <| mv rfl <| mv rfl <| ar rfl rfl .add <| s_conv (by rw [K3]; rfl) K94 (.n rfl) rfl rfl (.t rfl) ?_
    obtain ⟨x11, hx11, ho⟩ := bnd ho
    refine s_shrO hx11 (.n rfl) rfl rfl (.t rfl) (.i (by decide) (by decide)) <| s_conv (by rw [K94]; rfl) K3 (.n rfl) rfl rfl (.t rfl) <| sg rfl <| nq <| r_seq ?_
    refine r_draw [4, 8] (by kernel_rfl) ?_
    refine mv rfl <| mv rfl <| mv rfl ?_
    obtain ⟨x12, hx12, ho⟩ := bnd ho
    refine s_idxo 0 S92 hx12 (.n rfl) rfl rfl (.t rfl) rfl (.t rfl) <| s_loado 0 (fun _ h => by cases h <;> rfl) U99 FOk.self (idx_inv hx12).2.2.2 (.n rfl) rfl rfl (.t rfl) rfl <| mv rfl <| mv rfl ?_
    obtain ⟨x13, hx13, ho⟩ := bnd ho
    refine s_idxo 0 S92 hx13 (.n rfl) rfl rfl (.t rfl) rfl (.t rfl) <| s_loado 0 (fun _ h => by cases h <;> rfl) U99 FOk.self (idx_inv hx13).2.2.2 (.n rfl) rfl rfl (.t rfl) rfl ?_
    obtain ⟨y14, hy14, ho⟩ := bnd ho
    refine s_callv (X := (duty_option × duty_option)) (Y := (Int)) (f := p_4) (x := (x12, x13)) hy14 (.n rfl) rfl rfl rfl (.t rfl) (.c (.t rfl) (.c (.t rfl) .n)) ?_
    show SOps ..
    refine cmc rfl (by decide) .lss <| nq <| ct rfl (fun hq15 => ?_) (fun hq15 => ?_)
    ·have ho := cnd1 ho hq15
     refine r_region <| mv rfl <| arc rfl (by decide) .add <| sg rfl ?_
     cases ho
     exact s_nil (fun fr h s => And.intro rfl (Exists.intro [] (s.pick [0] ⟨rfl, rfl, rfl, rfl, rfl, trivial⟩ rfl (by decide))))
    ·have ho := cnd0 ho hq15
     refine r_region <| mv rfl <| sg rfl ?_
     cases ho
     exact s_nil (fun fr h s => And.intro rfl (Exists.intro [] (s.pick [0] ⟨rfl, rfl, rfl, rfl, rfl, trivial⟩ rfl (by decide))))
   ·have ho := cnd0 ho hq10
    cases ho
    exact r_exit (fun fr h s => And.intro rfl (Exists.intro [] (s.pick [0] ⟨rfl, rfl, rfl, trivial⟩ rfl (by decide))))
  ·intro g18
   show ∀ fr h, St _ [(0, .raw v_0), (1, .val (rInt .i64) (p_1)), (10, .val (rInt .i64) (t16))] [(v_0, .row rduty_option (p_0))] fr h → _
   show SRun ..
   refine r_seq <| rr <| mv rfl <| sg rfl <| nq <| r_block ?_
   obtain ⟨t36, ht36, ho⟩ := bnd ho
   refine r_loop (σ := (Int × (List duty_option))) (τ := ((List duty_option))) (G := List AVal) (fun s g => ([(0, .raw v_0), (10, .val (rInt .i64) (t16)), (13, .val (rInt .i64) (s.1))], [(v_0, .row rduty_option (s.2))])) (fun b => (.exit 2, fun g => ([], [(v_0, .row rduty_option (b))]))) _ [] ht36 (fun fr h s => s.pick [0] ⟨rfl, rfl, rfl, trivial⟩ rfl (by decide)) ?_ ?_ ?_
   ·intro t
    exact nx
   ·clear ho
    intro s29 g30 r37 ho
    refine r_seq <| rr <| mv rfl <| mv rfl <| arc rfl (by decide) .sub <| cm rfl rfl .lss <| nq <| ct rfl (fun hq31 => ?_) (fun hq31 => ?_)
    ·have ho := cnd1 ho hq31
     refine kq rfl <| r_seq <| r_block ?_
     refine r_draw [9, 13] (by kernel_rfl) ?_
     refine mv rfl <| mv rfl <| mv rfl <| mv rfl <| arc rfl (by decide) .add <| mv rfl <| mv rfl <| arc rfl (by decide) .add ?_
     obtain ⟨x32, hx32, ho⟩ := bnd ho
     refine s_idxo 0 S92 hx32 (.n rfl) rfl rfl (.t rfl) rfl (.t rfl) <| s_loado 0 (fun _ h => by cases h <;> rfl) U99 FOk.self (idx_inv hx32).2.2.2 (.n rfl) rfl rfl (.t rfl) rfl <| mv rfl <| mv rfl ?_
     obtain ⟨x33, hx33, ho⟩ := bnd ho
     refine s_idxo 0 S92 hx33 (.n rfl) rfl rfl (.t rfl) rfl (.t rfl) <| s_loado 0 (fun _ h => by cases h <;> rfl) U99 FOk.self (idx_inv hx33).2.2.2 (.n rfl) rfl rfl (.t rfl) rfl ?_
     obtain ⟨x34, hx34, ho⟩ := bnd ho
     refine s_idxo 0 S92 hx34 (.n rfl) rfl rfl (.t rfl) rfl (.t rfl) <| s_storeo 0 U99 FOk.self (idx_inv hx34).2.2.2 (.n rfl) rfl rfl (.t rfl) (.t rfl) rfl rfl ?_
     obtain ⟨x35, hx35, ho⟩ := bnd ho
     refine s_idxo 0 S92 hx35 (.n rfl) rfl rfl (.t rfl) rfl (.t rfl) <| s_storeo 0 U99 FOk.self (idx_inv hx35).2.2.2 (.n rfl) rfl rfl (.t rfl) (.t rfl) rfl rfl <| nq <| r_region <| mv rfl <| arc rfl (by decide) .add <| sg rfl ?_
     cases ho
     exact s_nil (fun fr h s => And.intro rfl (Exists.intro [] (s.pick [0] ⟨rfl, rfl, rfl, trivial⟩ rfl (by decide))))
    ·have ho := cnd0 ho hq31
     cases ho
     exact r_exit (fun fr h s => And.intro rfl (Exists.intro [] (s.pick [0] trivial rfl (by decide))))
   ·intro g38
    show ∀ fr h, St _ [] [(v_0, .row rduty_option (t36))] fr h → _
    show SRun ..
    cases ho
    exact r_ret (retm_of [0] [] (.inr rfl) .n rfl (by decide))
 ·have ho := cnd0 ho hq1
  refine kq rfl <| r_seq <| rr <| mv rfl <| mv rfl <| ar rfl rfl .sub <| cmc rfl (by decide) .eql <| nq <| ct rfl (fun hq39 => ?_) (fun hq39 => ?_)
  ·have ho := cnd1 ho hq39
   refine rr <| mv rfl <| sg rfl <| nq <| rr <| mv rfl <| sg rfl <| nq <| r_seq <| r_block ?_
   obtain ⟨t54, ht54, ho⟩ := bnd ho
   refine r_loop (σ := (Int × Int)) (τ := (Int)) (G := List AVal) (fun s g => ([(0, .raw v_0), (2, .val (rInt .i64) (p_2)), (4, .val (rFn ktab (duty_option × duty_option) (Int) (fun x => [.val rduty_option (x.1), .val rduty_option (x.2)]) (fun y => [.val (rInt .i64) (y)])) (p_4)), (14, .val (rInt .i64) (s.1)), (15, .val (rInt .i64) (s.2))], [(v_0, .row rduty_option (p_0))])) (fun b => (.exit 4, fun g => ([(0, .raw v_0), (2, .val (rInt .i64) (p_2)), (14, .val (rInt .i64) (b))], [(v_0, .row rduty_option (p_0))]))) _ [] ht54 (fun fr h s => s.pick [0] ⟨rfl, rfl, rfl, rfl, rfl, trivial⟩ rfl (by decide)) ?_ ?_ ?_
   ·intro t
    exact nx
   ·clear ho
    intro s46 g47 r55 ho
    refine r_seq <| rr <| mv rfl <| mv rfl <| cm rfl rfl .lss <| nq <| ct rfl (fun hq48 => ?_) (fun hq48 => ?_)
    ·have ho := cnd1 ho hq48
     refine kq rfl <| r_block <| rr <| mv rfl <| mv rfl <| ar rfl rfl .add <| s_conv (by rw [K3]; rfl) K94 (.n rfl) rfl rfl (.t rfl) ?_
     obtain ⟨x49, hx49, ho⟩ := bnd ho
     refine s_shrO hx49 (.n rfl) rfl rfl (.t rfl) (.i (by decide) (by decide)) <| s_conv (by rw [K94]; rfl) K3 (.n rfl) rfl rfl (.t rfl) <| sg rfl <| nq <| r_seq ?_
     refine r_draw [4, 8] (by kernel_rfl) ?_
     refine mv rfl <| mv rfl <| mv rfl ?_
     obtain ⟨x50, hx50, ho⟩ := bnd ho
     refine s_idxo 0 S92 hx50 (.n rfl) rfl rfl (.t rfl) rfl (.t rfl) <| s_loado 0 (fun _ h => by cases h <;> rfl) U99 FOk.self (idx_inv hx50).2.2.2 (.n rfl) rfl rfl (.t rfl) rfl <| mv rfl <| mv rfl ?_
     obtain ⟨x51, hx51, ho⟩ := bnd ho
     refine s_idxo 0 S92 hx51 (.n rfl) rfl rfl (.t rfl) rfl (.t rfl) <| s_loado 0 (fun _ h => by cases h <;> rfl) U99 FOk.self (idx_inv hx51).2.2.2 (.n rfl) rfl rfl (.t rfl) rfl ?_
     obtain ⟨y52, hy52, ho⟩ := bnd ho
     refine s_callv (X := (duty_option × duty_option)) (Y := (Int)) (f := p_4) (x := (x50, x51)) hy52 (.n rfl) rfl rfl rfl (.t rfl) (.c (.t rfl) (.c (.t rfl) .n)) ?_
     show SOps ..
     refine cmc rfl (by decide) .lss <| s_not (.n rfl) rfl rfl (.t rfl) <| nq <| ct rfl (fun hq53 => ?_) (fun hq53 => ?_)
     ·have ho := cnd1 ho hq53
      refine r_region <| mv rfl <| arc rfl (by decide) .add <| sg rfl ?_
      cases ho
      exact s_nil (fun fr h s => And.intro rfl (Exists.intro [] (s.pick [0] ⟨rfl, rfl, rfl, rfl, rfl, trivial⟩ rfl (by decide))))
     ·have ho := cnd0 ho hq53
      refine r_region <| mv rfl <| sg rfl ?_
      cases ho
      exact s_nil (fun fr h s => And.intro rfl (Exists.intro [] (s.pick [0] ⟨rfl, rfl, rfl, rfl, rfl, trivial⟩ rfl (by decide))))
    ·have ho := cnd0 ho hq48
     cases ho
     exact r_exit (fun fr h s => And.intro rfl (Exists.intro [] (s.pick [0] ⟨rfl, rfl, rfl, trivial⟩ rfl (by decide))))
   ·intro g56
    show ∀ fr h, St _ [(0, .raw v_0), (2, .val (rInt .i64) (p_2)), (14, .val (rInt .i64) (t54))] [(v_0, .row rduty_option (p_0))] fr h → _
    show SRun ..
    refine r_seq <| rr <| mv rfl <| sg rfl <| nq <| r_block ?_
    obtain ⟨t74, ht74, ho⟩ := bnd ho
    refine r_loop (σ := (Int × (List duty_option))) (τ := ((List duty_option))) (G := List AVal) (fun s g => ([(0, .raw v_0), (14, .val (rInt .i64) (t54)), (17, .val (rInt .i64) (s.1))], [(v_0, .row rduty_option (s.2))])) (fun b => (.exit 6, fun g => ([], [(v_0, .row rduty_option (b))]))) _ [] ht74 (fun fr h s => s.pick [0] ⟨rfl, rfl, rfl, trivial⟩ rfl (by decide)) ?_ ?_ ?_
    ·intro t
     exact nx
    ·clear ho
     intro s67 g68 r75 ho
     refine r_seq <| rr <| mv rfl <| mv rfl <| cm rfl rfl .gtr <| nq <| ct rfl (fun hq69 => ?_) (fun hq69 => ?_)
     ·have ho := cnd1 ho hq69
      refine kq rfl <| r_seq <| r_block ?_
      refine r_draw [9, 13] (by kernel_rfl) ?_
      refine mv rfl <| mv rfl <| mv rfl <| mv rfl <| arc rfl (by decide) .sub <| mv rfl <| mv rfl <| arc rfl (by decide) .sub ?_
      obtain ⟨x70, hx70, ho⟩ := bnd ho
      refine s_idxo 0 S92 hx70 (.n rfl) rfl rfl (.t rfl) rfl (.t rfl) <| s_loado 0 (fun _ h => by cases h <;> rfl) U99 FOk.self (idx_inv hx70).2.2.2 (.n rfl) rfl rfl (.t rfl) rfl <| mv rfl <| mv rfl ?_
      obtain ⟨x71, hx71, ho⟩ := bnd ho
      refine s_idxo 0 S92 hx71 (.n rfl) rfl rfl (.t rfl) rfl (.t rfl) <| s_loado 0 (fun _ h => by cases h <;> rfl) U99 FOk.self (idx_inv hx71).2.2.2 (.n rfl) rfl rfl (.t rfl) rfl ?_
      obtain ⟨x72, hx72, ho⟩ := bnd ho
      refine s_idxo 0 S92 hx72 (.n rfl) rfl rfl (.t rfl) rfl (.t rfl) <| s_storeo 0 U99 FOk.self (idx_inv hx72).2.2.2 (.n rfl) rfl rfl (.t rfl) (.t rfl) rfl rfl ?_
      obtain ⟨x73, hx73, ho⟩ := bnd ho
      refine s_idxo 0 S92 hx73 (.n rfl) rfl rfl (.t rfl) rfl (.t rfl) <| s_storeo 0 U99 FOk.self (idx_inv hx73).2.2.2 (.n rfl) rfl rfl (.t rfl) (.t rfl) rfl rfl <| nq <| r_region <| mv rfl <| arc rfl (by decide) .sub <| sg rfl ?_
      cases ho
      exact s_nil (fun fr h s => And.intro rfl (Exists.intro [] (s.pick [0] ⟨rfl, rfl, rfl, trivial⟩ rfl (by decide))))
     ·have ho := cnd0 ho hq69
      cases ho
      exact r_exit (fun fr h s => And.intro rfl (Exists.intro [] (s.pick [0] trivial rfl (by decide))))
    ·intro g76
     show ∀ fr h, St _ [] [(v_0, .row rduty_option (t74))] fr h → _
     show SRun ..
     cases ho
     exact r_ret (retm_of [0] [] (.inr rfl) .n rfl (by decide))
  ·have ho := cnd0 ho hq39
   refine kq rfl <| rr <| mv rfl <| mv rfl <| ar rfl rfl .add <| s_conv (by rw [K3]; rfl) K94 (.n rfl) rfl rfl (.t rfl) ?_
   obtain ⟨x77, hx77, ho⟩ := bnd ho
   refine s_shrO hx77 (.n rfl) rfl rfl (.t rfl) (.i (by decide) (by decide)) <| s_conv (by rw [K94]; rfl) K3 (.n rfl) rfl rfl (.t rfl) <| sg rfl <| nq <| rr <| mv rfl <| mv rfl <| ar rfl rfl .add <| sg rfl <| nq <| rr <| sgc (by decide) <| sgc (by decide) <| nq <| r_seq <| rr <| mv rfl <| mv rfl <| cm rfl rfl .gtr <| nq <| ct rfl (fun hq78 => ?_) (fun hq78 => ?_)
   ·have ho := cnd1 ho hq78
    refine rr <| mv rfl <| mv rfl <| ar rfl rfl .sub <| sg rfl <| nq <| r_region <| mv rfl <| sg rfl <| nq <| rr <| mv rfl <| arc rfl (by decide) .sub <| sg rfl <| nq <| r_seq <| r_block ?_
    obtain ⟨t93, ht93, ho⟩ := bnd ho
    refine r_loop (σ := (Int × Int)) (τ := (Int)) (G := List AVal) (fun s g => ([(0, .raw v_0), (1, .val (rInt .i64) (p_1)), (2, .val (rInt .i64) (p_2)), (3, .val (rInt .i64) (p_3)), (4, .val (rFn ktab (duty_option × duty_option) (Int) (fun x => [.val rduty_option (x.1), .val rduty_option (x.2)]) (fun y => [.val (rInt .i64) (y)])) (p_4)), (18, .val (rInt .i64) ((w64 x77))), (19, .val (rInt .i64) ((w64 ((w64 x77) + p_2)))), (20, .val (rInt .i64) (s.1)), (21, .val (rInt .i64) (s.2)), (22, .val (rInt .i64) ((w64 ((w64 ((w64 x77) + p_2)) - 1))))], [(v_0, .row rduty_option (p_0))])) (fun b => (.exit 8, fun g => ([(0, .raw v_0), (1, .val (rInt .i64) (p_1)), (2, .val (rInt .i64) (p_2)), (3, .val (rInt .i64) (p_3)), (4, .val (rFn ktab (duty_option × duty_option) (Int) (fun x => [.val rduty_option (x.1), .val rduty_option (x.2)]) (fun y => [.val (rInt .i64) (y)])) (p_4)), (18, .val (rInt .i64) ((w64 x77))), (19, .val (rInt .i64) ((w64 ((w64 x77) + p_2)))), (20, .val (rInt .i64) (b))], [(v_0, .row rduty_option (p_0))]))) _ [] ht93 (fun fr h s => s.pick [0] ⟨rfl, rfl, rfl, rfl, rfl, rfl, rfl, rfl, rfl, rfl, trivial⟩ rfl (by decide)) ?_ ?_ ?_
    ·intro t
     exact nx
    ·clear ho
     intro s85 g86 r94 ho
     refine r_seq <| rr <| mv rfl <| mv rfl <| cm rfl rfl .lss <| nq <| ct rfl (fun hq87 => ?_) (fun hq87 => ?_)
     ·have ho := cnd1 ho hq87
      refine kq rfl <| r_block <| rr <| mv rfl <| mv rfl <| ar rfl rfl .add <| s_conv (by rw [K3]; rfl) K94 (.n rfl) rfl rfl (.t rfl) ?_
      obtain ⟨x88, hx88, ho⟩ := bnd ho
      refine s_shrO hx88 (.n rfl) rfl rfl (.t rfl) (.i (by decide) (by decide)) <| s_conv (by rw [K94]; rfl) K3 (.n rfl) rfl rfl (.t rfl) <| sg rfl <| nq <| r_seq ?_
      refine r_draw [6, 10] (by kernel_rfl) ?_
      refine mv rfl <| mv rfl <| mv rfl <| mv rfl <| ar rfl rfl .sub ?_
      obtain ⟨x89, hx89, ho⟩ := bnd ho
      refine s_idxo 0 S92 hx89 (.n rfl) rfl rfl (.t rfl) rfl (.t rfl) <| s_loado 0 (fun _ h => by cases h <;> rfl) U99 FOk.self (idx_inv hx89).2.2.2 (.n rfl) rfl rfl (.t rfl) rfl <| mv rfl <| mv rfl ?_
      obtain ⟨x90, hx90, ho⟩ := bnd ho
      refine s_idxo 0 S92 hx90 (.n rfl) rfl rfl (.t rfl) rfl (.t rfl) <| s_loado 0 (fun _ h => by cases h <;> rfl) U99 FOk.self (idx_inv hx90).2.2.2 (.n rfl) rfl rfl (.t rfl) rfl ?_
      obtain ⟨y91, hy91, ho⟩ := bnd ho
      refine s_callv (X := (duty_option × duty_option)) (Y := (Int)) (f := p_4) (x := (x89, x90)) hy91 (.n rfl) rfl rfl rfl (.t rfl) (.c (.t rfl) (.c (.t rfl) .n)) ?_
      show SOps ..
      refine cmc rfl (by decide) .lss <| s_not (.n rfl) rfl rfl (.t rfl) <| nq <| ct rfl (fun hq92 => ?_) (fun hq92 => ?_)
      ·have ho := cnd1 ho hq92
       refine r_region <| mv rfl <| arc rfl (by decide) .add <| sg rfl ?_
       cases ho
       exact s_nil (fun fr h s => And.intro rfl (Exists.intro [] (s.pick [0] ⟨rfl, rfl, rfl, rfl, rfl, rfl, rfl, rfl, rfl, rfl, trivial⟩ rfl (by decide))))
      ·have ho := cnd0 ho hq92
       refine r_region <| mv rfl <| sg rfl ?_
       cases ho
       exact s_nil (fun fr h s => And.intro rfl (Exists.intro [] (s.pick [0] ⟨rfl, rfl, rfl, rfl, rfl, rfl, rfl, rfl, rfl, rfl, trivial⟩ rfl (by decide))))
     ·have ho := cnd0 ho hq87
      cases ho
      exact r_exit (fun fr h s => And.intro rfl (Exists.intro [] (s.pick [0] ⟨rfl, rfl, rfl, rfl, rfl, rfl, rfl, rfl, trivial⟩ rfl (by decide))))
    ·intro g95
     show ∀ fr h, St _ [(0, .raw v_0), (1, .val (rInt .i64) (p_1)), (2, .val (rInt .i64) (p_2)), (3, .val (rInt .i64) (p_3)), (4, .val (rFn ktab (duty_option × duty_option) (Int) (fun x => [.val rduty_option (x.1), .val rduty_option (x.2)]) (fun y => [.val (rInt .i64) (y)])) (p_4)), (18, .val (rInt .i64) ((w64 x77))), (19, .val (rInt .i64) ((w64 ((w64 x77) + p_2)))), (20, .val (rInt .i64) (t93))] [(v_0, .row rduty_option (p_0))] fr h → _
     show SRun ..
     refine rr <| mv rfl <| mv rfl <| ar rfl rfl .sub <| sg rfl <| nq <| r_seq <| r_seq ?_
     obtain ⟨c97, hc97, ho⟩ := bnd ho
     refine r_cut (τ := (Bool)) (G := Unit) (fun t => (.normal, fun _ => ([(0, .raw v_0), (1, .val (rInt .i64) (p_1)), (2, .val (rInt .i64) (p_2)), (3, .val (rInt .i64) (p_3)), (4, .val (rFn ktab (duty_option × duty_option) (Int) (fun x => [.val rduty_option (x.1), .val rduty_option (x.2)]) (fun y => [.val (rInt .i64) (y)])) (p_4)), (18, .val (rInt .i64) ((w64 x77))), (20, .val (rInt .i64) (t93)), (24, .val (rInt .i64) ((w64 ((w64 ((w64 x77) + p_2)) - t93)))), (185, .val rBool (t))], [(v_0, .row rduty_option (p_0))]))) (t := c97) ?_ ?_
     ·have ho := hc97
      clear hc97
      refine r_region <| mv rfl <| mv rfl <| cm rfl rfl .lss <| mv rfl ?_
      rcases Bool.eq_false_or_eq_true ((decide (t93 < p_2))) with hb98 | hb98
      ·have ho := cnd1 ho hb98
       refine mvg (gt1 hb98) rfl rfl rfl <| mvg (gt1 hb98) rfl rfl rfl <| s_cmp (.g rfl rfl (gt1 hb98)) rfl rfl (.t rfl) (.t rfl) .lss <| pk1 hb98 rfl (.t rfl) ?_
       cases ho
       exact s_nil (fun fr h s => And.intro rfl (Exists.intro () (s.pick [0] ⟨rfl, rfl, rfl, rfl, rfl, rfl, rfl, rfl, rfl, trivial⟩ rfl (by decide))))
      ·have ho := cnd0 ho hb98
       refine skg (gt0 hb98) rfl rfl <| skg (gt0 hb98) rfl rfl <| skg (gt0 hb98) rfl rfl <| pk0 hb98 rfl .b ?_
       cases ho
       exact s_nil (fun fr h s => And.intro rfl (Exists.intro () (s.pick [0] ⟨rfl, rfl, rfl, rfl, rfl, rfl, rfl, rfl, rfl, trivial⟩ rfl (by decide))))
     ·intro _
      show SRun ..
      refine ct rfl (fun hq99 => ?_) (fun hq99 => ?_)
      ·have ho := cnd1 ho hq99
       refine r_region <| mv rfl <| mv rfl <| mv rfl <| mv rfl <| mv rfl ?_
       obtain ⟨y100, hy100, ho⟩ := bnd ho
       refine s_callmd [0] [] (fun _ h => by cases h) (g_slices_rotateCmpFunc_duty_option_ok hy100 v_0) rfl rfl (by decide) rfl (.n rfl) rfl rfl rfl .f (.c (.t rfl) (.c (.t rfl) (.c (.t rfl) (.c (.t rfl) (.c (.t rfl) .n))))) ?_
       intro g101
       show SOps ..
       refine nq <| r_seq <| r_seq ?_
       obtain ⟨c103, hc103, ho⟩ := bnd ho
       refine r_cut (τ := (Bool)) (G := Unit) (fun t => (.normal, fun _ => ([(0, .raw v_0), (1, .val (rInt .i64) (p_1)), (3, .val (rInt .i64) (p_3)), (4, .val (rFn ktab (duty_option × duty_option) (Int) (fun x => [.val rduty_option (x.1), .val rduty_option (x.2)]) (fun y => [.val (rInt .i64) (y)])) (p_4)), (18, .val (rInt .i64) ((w64 x77))), (20, .val (rInt .i64) (t93)), (24, .val (rInt .i64) ((w64 ((w64 ((w64 x77) + p_2)) - t93)))), (199, .val rBool (t))], [(v_0, .row rduty_option (y100))]))) (t := c103) ?_ ?_
       ·have ho := hc103
        clear hc103
        refine r_region <| mv rfl <| mv rfl <| cm rfl rfl .lss <| mv rfl ?_
        rcases Bool.eq_false_or_eq_true ((decide (p_1 < t93))) with hb104 | hb104
        ·have ho := cnd1 ho hb104
         refine mvg (gt1 hb104) rfl rfl rfl <| mvg (gt1 hb104) rfl rfl rfl <| s_cmp (.g rfl rfl (gt1 hb104)) rfl rfl (.t rfl) (.t rfl) .lss <| pk1 hb104 rfl (.t rfl) ?_
         cases ho
         exact s_nil (fun fr h s => And.intro rfl (Exists.intro () (s.pick [0] ⟨rfl, rfl, rfl, rfl, rfl, rfl, rfl, rfl, trivial⟩ rfl (by decide))))
        ·have ho := cnd0 ho hb104
         refine skg (gt0 hb104) rfl rfl <| skg (gt0 hb104) rfl rfl <| skg (gt0 hb104) rfl rfl <| pk0 hb104 rfl .b ?_
         cases ho
         exact s_nil (fun fr h s => And.intro rfl (Exists.intro () (s.pick [0] ⟨rfl, rfl, rfl, rfl, rfl, rfl, rfl, rfl, trivial⟩ rfl (by decide))))
       ·intro _
        show SRun ..
        refine ct rfl (fun hq105 => ?_) (fun hq105 => ?_)
        ·have ho := cnd1 ho hq105
         refine r_region <| mv rfl <| mv rfl <| mv rfl <| mv rfl <| mv rfl ?_
         obtain ⟨y106, hy106, ho⟩ := bnd ho
         refine s_callmd [0] [] (fun _ h => by cases h) (hrec hy106 v_0) rfl rfl (by decide) rfl (.n rfl) rfl rfl rfl .f (.c (.t rfl) (.c (.t rfl) (.c (.t rfl) (.c (.t rfl) (.c (.t rfl) .n))))) ?_
         intro g107
         show SOps ..
         refine nq <| r_seq ?_
         obtain ⟨c109, hc109, ho⟩ := bnd ho
         refine r_cut (τ := (Bool)) (G := Unit) (fun t => (.normal, fun _ => ([(0, .raw v_0), (3, .val (rInt .i64) (p_3)), (4, .val (rFn ktab (duty_option × duty_option) (Int) (fun x => [.val rduty_option (x.1), .val rduty_option (x.2)]) (fun y => [.val (rInt .i64) (y)])) (p_4)), (18, .val (rInt .i64) ((w64 x77))), (24, .val (rInt .i64) ((w64 ((w64 ((w64 x77) + p_2)) - t93)))), (213, .val rBool (t))], [(v_0, .row rduty_option (y106))]))) (t := c109) ?_ ?_
         ·have ho := hc109
          clear hc109
          refine r_region <| mv rfl <| mv rfl <| cm rfl rfl .lss <| mv rfl ?_
          rcases Bool.eq_false_or_eq_true ((decide ((w64 x77) < (w64 ((w64 ((w64 x77) + p_2)) - t93))))) with hb110 | hb110
          ·have ho := cnd1 ho hb110
           refine mvg (gt1 hb110) rfl rfl rfl <| mvg (gt1 hb110) rfl rfl rfl <| s_cmp (.g rfl rfl (gt1 hb110)) rfl rfl (.t rfl) (.t rfl) .lss <| pk1 hb110 rfl (.t rfl) ?_
           cases ho
           exact s_nil (fun fr h s => And.intro rfl (Exists.intro () (s.pick [0] ⟨rfl, rfl, rfl, rfl, rfl, rfl, trivial⟩ rfl (by decide))))
          ·have ho := cnd0 ho hb110
           refine skg (gt0 hb110) rfl rfl <| skg (gt0 hb110) rfl rfl <| skg (gt0 hb110) rfl rfl <| pk0 hb110 rfl .b ?_
           cases ho
           exact s_nil (fun fr h s => And.intro rfl (Exists.intro () (s.pick [0] ⟨rfl, rfl, rfl, rfl, rfl, rfl, trivial⟩ rfl (by decide))))
         ·intro _
          show SRun ..
          refine ct rfl (fun hq111 => ?_) (fun hq111 => ?_)
          ·have ho := cnd1 ho hq111
           refine r_region <| mv rfl <| mv rfl <| mv rfl <| mv rfl <| mv rfl ?_
           obtain ⟨y112, hy112, ho⟩ := bnd ho
           refine s_callmd [0] [] (fun _ h => by cases h) (hrec hy112 v_0) rfl rfl (by decide) rfl (.n rfl) rfl rfl rfl .f (.c (.t rfl) (.c (.t rfl) (.c (.t rfl) (.c (.t rfl) (.c (.t rfl) .n))))) ?_
           intro g113
           show SOps ..
           cases ho
           exact s_nil (retm_of [0] [] (.inl rfl) .n rfl (by decide))
          ·have ho := cnd0 ho hq111
           cases ho
           exact r_skip (retm_of [0] [] (.inl rfl) .n rfl (by decide))
        ·have ho := cnd0 ho hq105
         refine kq rfl <| r_seq ?_
         obtain ⟨c115, hc115, ho⟩ := bnd ho
         refine r_cut (τ := (Bool)) (G := Unit) (fun t => (.normal, fun _ => ([(0, .raw v_0), (3, .val (rInt .i64) (p_3)), (4, .val (rFn ktab (duty_option × duty_option) (Int) (fun x => [.val rduty_option (x.1), .val rduty_option (x.2)]) (fun y => [.val (rInt .i64) (y)])) (p_4)), (18, .val (rInt .i64) ((w64 x77))), (24, .val (rInt .i64) ((w64 ((w64 ((w64 x77) + p_2)) - t93)))), (213, .val rBool (t))], [(v_0, .row rduty_option (y100))]))) (t := c115) ?_ ?_
         ·have ho := hc115
          clear hc115
          refine r_region <| mv rfl <| mv rfl <| cm rfl rfl .lss <| mv rfl ?_
          rcases Bool.eq_false_or_eq_true ((decide ((w64 x77) < (w64 ((w64 ((w64 x77) + p_2)) - t93))))) with hb116 | hb116
          ·have ho := cnd1 ho hb116
           refine mvg (gt1 hb116) rfl rfl rfl <| mvg (gt1 hb116) rfl rfl rfl <| s_cmp (.g rfl rfl (gt1 hb116)) rfl rfl (.t rfl) (.t rfl) .lss <| pk1 hb116 rfl (.t rfl) ?_
           cases ho
           exact s_nil (fun fr h s => And.intro rfl (Exists.intro () (s.pick [0] ⟨rfl, rfl, rfl, rfl, rfl, rfl, trivial⟩ rfl (by decide))))
          ·have ho := cnd0 ho hb116
           refine skg (gt0 hb116) rfl rfl <| skg (gt0 hb116) rfl rfl <| skg (gt0 hb116) rfl rfl <| pk0 hb116 rfl .b ?_
           cases ho
           exact s_nil (fun fr h s => And.intro rfl (Exists.intro () (s.pick [0] ⟨rfl, rfl, rfl, rfl, rfl, rfl, trivial⟩ rfl (by decide))))
         ·intro _
          show SRun ..
          refine ct rfl (fun hq117 => ?_) (fun hq117 => ?_)
          ·have ho := cnd1 ho hq117
           refine r_region <| mv rfl <| mv rfl <| mv rfl <| mv rfl <| mv rfl ?_
           obtain ⟨y118, hy118, ho⟩ := bnd ho
           refine s_callmd [0] [] (fun _ h => by cases h) (hrec hy118 v_0) rfl rfl (by decide) rfl (.n rfl) rfl rfl rfl .f (.c (.t rfl) (.c (.t rfl) (.c (.t rfl) (.c (.t rfl) (.c (.t rfl) .n))))) ?_
           intro g119
           show SOps ..
           cases ho
           exact s_nil (retm_of [0] [] (.inl rfl) .n rfl (by decide))
          ·have ho := cnd0 ho hq117
           cases ho
           exact r_skip (retm_of [0] [] (.inl rfl) .n rfl (by decide))
      ·have ho := cnd0 ho hq99
       refine kq rfl <| r_seq <| r_seq ?_
       obtain ⟨c121, hc121, ho⟩ := bnd ho
       refine r_cut (τ := (Bool)) (G := Unit) (fun t => (.normal, fun _ => ([(0, .raw v_0), (1, .val (rInt .i64) (p_1)), (3, .val (rInt .i64) (p_3)), (4, .val (rFn ktab (duty_option × duty_option) (Int) (fun x => [.val rduty_option (x.1), .val rduty_option (x.2)]) (fun y => [.val (rInt .i64) (y)])) (p_4)), (18, .val (rInt .i64) ((w64 x77))), (20, .val (rInt .i64) (t93)), (24, .val (rInt .i64) ((w64 ((w64 ((w64 x77) + p_2)) - t93)))), (199, .val rBool (t))], [(v_0, .row rduty_option (p_0))]))) (t := c121) ?_ ?_
       ·have ho := hc121
        clear hc121
        refine r_region <| mv rfl <| mv rfl <| cm rfl rfl .lss <| mv rfl ?_
        rcases Bool.eq_false_or_eq_true ((decide (p_1 < t93))) with hb122 | hb122
        ·have ho := cnd1 ho hb122
         refine mvg (gt1 hb122) rfl rfl rfl <| mvg (gt1 hb122) rfl rfl rfl <| s_cmp (.g rfl rfl (gt1 hb122)) rfl rfl (.t rfl) (.t rfl) .lss <| pk1 hb122 rfl (.t rfl) ?_
         cases ho
         exact s_nil (fun fr h s => And.intro rfl (Exists.intro () (s.pick [0] ⟨rfl, rfl, rfl, rfl, rfl, rfl, rfl, rfl, trivial⟩ rfl (by decide))))
        ·have ho := cnd0 ho hb122
         refine skg (gt0 hb122) rfl rfl <| skg (gt0 hb122) rfl rfl <| skg (gt0 hb122) rfl rfl <| pk0 hb122 rfl .b ?_
         cases ho
         exact s_nil (fun fr h s => And.intro rfl (Exists.intro () (s.pick [0] ⟨rfl, rfl, rfl, rfl, rfl, rfl, rfl, rfl, trivial⟩ rfl (by decide))))
       ·intro _
        show SRun ..
        refine ct rfl (fun hq123 => ?_) (fun hq123 => ?_)
        ·have ho := cnd1 ho hq123
         refine r_region <| mv rfl <| mv rfl <| mv rfl <| mv rfl <| mv rfl ?_
         obtain ⟨y124, hy124, ho⟩ := bnd ho
         refine s_callmd [0] [] (fun _ h => by cases h) (hrec hy124 v_0) rfl rfl (by decide) rfl (.n rfl) rfl rfl rfl .f (.c (.t rfl) (.c (.t rfl) (.c (.t rfl) (.c (.t rfl) (.c (.t rfl) .n))))) ?_
         intro g125
         show SOps ..
         refine nq <| r_seq ?_
         obtain ⟨c127, hc127, ho⟩ := bnd ho
         refine r_cut (τ := (Bool)) (G := Unit) (fun t => (.normal, fun _ => ([(0, .raw v_0), (3, .val (rInt .i64) (p_3)), (4, .val (rFn ktab (duty_option × duty_option) (Int) (fun x => [.val rduty_option (x.1), .val rduty_option (x.2)]) (fun y => [.val (rInt .i64) (y)])) (p_4)), (18, .val (rInt .i64) ((w64 x77))), (24, .val (rInt .i64) ((w64 ((w64 ((w64 x77) + p_2)) - t93)))), (213, .val rBool (t))], [(v_0, .row rduty_option (y124))]))) (t := c127) ?_ ?_
         ·have ho := hc127
          clear hc127
          refine r_region <| mv rfl <| mv rfl <| cm rfl rfl .lss <| mv rfl ?_
          rcases Bool.eq_false_or_eq_true ((decide ((w64 x77) < (w64 ((w64 ((w64 x77) + p_2)) - t93))))) with hb128 | hb128
          ·have ho := cnd1 ho hb128
           refine mvg (gt1 hb128) rfl rfl rfl <| mvg (gt1 hb128) rfl rfl rfl <| s_cmp (.g rfl rfl (gt1 hb128)) rfl rfl (.t rfl) (.t rfl) .lss <| pk1 hb128 rfl (.t rfl) ?_
           cases ho
           exact s_nil (fun fr h s => And.intro rfl (Exists.intro () (s.pick [0] ⟨rfl, rfl, rfl, rfl, rfl, rfl, trivial⟩ rfl (by decide))))
          ·have ho := cnd0 ho hb128
           refine skg (gt0 hb128) rfl rfl <| skg (gt0 hb128) rfl rfl <| skg (gt0 hb128) rfl rfl <| pk0 hb128 rfl .b ?_
           cases ho
           exact s_nil (fun fr h s => And.intro rfl (Exists.intro () (s.pick [0] ⟨rfl, rfl, rfl, rfl, rfl, rfl, trivial⟩ rfl (by decide))))
         ·intro _
          show SRun ..
          refine ct rfl (fun hq129 => ?_) (fun hq129 => ?_)
          ·have ho := cnd1 ho hq129
           refine r_region <| mv rfl <| mv rfl <| mv rfl <| mv rfl <| mv rfl ?_
           obtain ⟨y130, hy130, ho⟩ := bnd ho
           refine s_callmd [0] [] (fun _ h => by cases h) (hrec hy130 v_0) rfl rfl (by decide) rfl (.n rfl) rfl rfl rfl .f (.c (.t rfl) (.c (.t rfl) (.c (.t rfl) (.c (.t rfl) (.c (.t rfl) .n))))) ?_
           intro g131
           show SOps ..
           cases ho
           exact s_nil (retm_of [0] [] (.inl rfl) .n rfl (by decide))
          ·have ho := cnd0 ho hq129
           cases ho
           exact r_skip (retm_of [0] [] (.inl rfl) .n rfl (by decide))
        ·have ho := cnd0 ho hq123
         refine kq rfl <| r_seq ?_
         obtain ⟨c133, hc133, ho⟩ := bnd ho
         refine r_cut (τ := (Bool)) (G := Unit) (fun t => (.normal, fun _ => ([(0, .raw v_0), (3, .val (rInt .i64) (p_3)), (4, .val (rFn ktab (duty_option × duty_option) (Int) (fun x => [.val rduty_option (x.1), .val rduty_option (x.2)]) (fun y => [.val (rInt .i64) (y)])) (p_4)), (18, .val (rInt .i64) ((w64 x77))), (24, .val (rInt .i64) ((w64 ((w64 ((w64 x77) + p_2)) - t93)))), (213, .val rBool (t))], [(v_0, .row rduty_option (p_0))]))) (t := c133) ?_ ?_
         ·have ho := hc133
          clear hc133
          refine r_region <| mv rfl <| mv rfl <| cm rfl rfl .lss <| mv rfl ?_
          rcases Bool.eq_false_or_eq_true ((decide ((w64 x77) < (w64 ((w64 ((w64 x77) + p_2)) - t93))))) with hb134 | hb134
          ·have ho := cnd1 ho hb134
           refine mvg (gt1 hb134) rfl rfl rfl <| mvg (gt1 hb134) rfl rfl rfl <| s_cmp (.g rfl rfl (gt1 hb134)) rfl rfl (.t rfl) (.t rfl) .lss <| pk1 hb134 rfl (.t rfl) ?_
           cases ho
           exact s_nil (fun fr h s => And.intro rfl (Exists.intro () (s.pick [0] ⟨rfl, rfl, rfl, rfl, rfl, rfl, trivial⟩ rfl (by decide))))
          ·have ho := cnd0 ho hb134
           refine skg (gt0 hb134) rfl rfl <| skg (gt0 hb134) rfl rfl <| skg (gt0 hb134) rfl rfl <| pk0 hb134 rfl .b ?_
           cases ho
           exact s_nil (fun fr h s => And.intro rfl (Exists.intro () (s.pick [0] ⟨rfl, rfl, rfl, rfl, rfl, rfl, trivial⟩ rfl (by decide))))
         ·intro _
          show SRun ..
          refine ct rfl (fun hq135 => ?_) (fun hq135 => ?_)
          ·have ho := cnd1 ho hq135
           refine r_region <| mv rfl <| mv rfl <| mv rfl <| mv rfl <| mv rfl ?_
           obtain ⟨y136, hy136, ho⟩ := bnd ho
           refine s_callmd [0] [] (fun _ h => by cases h) (hrec hy136 v_0) rfl rfl (by decide) rfl (.n rfl) rfl rfl rfl .f (.c (.t rfl) (.c (.t rfl) (.c (.t rfl) (.c (.t rfl) (.c (.t rfl) .n))))) ?_
           intro g137
           show SOps ..
           cases ho
           exact s_nil (retm_of [0] [] (.inl rfl) .n rfl (by decide))
          ·have ho := cnd0 ho hq135
           cases ho
           exact r_skip (retm_of [0] [] (.inl rfl) .n rfl (by decide))
   ·have ho := cnd0 ho hq78
    refine rr <| mv rfl <| sg rfl <| nq <| r_region <| mv rfl <| sg rfl <| nq <| rr <| mv rfl <| arc rfl (by decide) .sub <| sg rfl <| nq <| r_seq <| r_block ?_
    obtain ⟨t152, ht152, ho⟩ := bnd ho
    refine r_loop (σ := (Int × Int)) (τ := (Int)) (G := List AVal) (fun s g => ([(0, .raw v_0), (1, .val (rInt .i64) (p_1)), (2, .val (rInt .i64) (p_2)), (3, .val (rInt .i64) (p_3)), (4, .val (rFn ktab (duty_option × duty_option) (Int) (fun x => [.val rduty_option (x.1), .val rduty_option (x.2)]) (fun y => [.val (rInt .i64) (y)])) (p_4)), (18, .val (rInt .i64) ((w64 x77))), (19, .val (rInt .i64) ((w64 ((w64 x77) + p_2)))), (20, .val (rInt .i64) (s.1)), (21, .val (rInt .i64) (s.2)), (22, .val (rInt .i64) ((w64 ((w64 ((w64 x77) + p_2)) - 1))))], [(v_0, .row rduty_option (p_0))])) (fun b => (.exit 8, fun g => ([(0, .raw v_0), (1, .val (rInt .i64) (p_1)), (2, .val (rInt .i64) (p_2)), (3, .val (rInt .i64) (p_3)), (4, .val (rFn ktab (duty_option × duty_option) (Int) (fun x => [.val rduty_option (x.1), .val rduty_option (x.2)]) (fun y => [.val (rInt .i64) (y)])) (p_4)), (18, .val (rInt .i64) ((w64 x77))), (19, .val (rInt .i64) ((w64 ((w64 x77) + p_2)))), (20, .val (rInt .i64) (b))], [(v_0, .row rduty_option (p_0))]))) _ [] ht152 (fun fr h s => s.pick [0] ⟨rfl, rfl, rfl, rfl, rfl, rfl, rfl, rfl, rfl, rfl, trivial⟩ rfl (by decide)) ?_ ?_ ?_
    ·intro t
     exact nx
    ·clear ho
     intro s144 g145 r153 ho
     refine r_seq <| rr <| mv rfl <| mv rfl <| cm rfl rfl .lss <| nq <| ct rfl (fun hq146 => ?_) (fun hq146 => ?_)
     ·have ho := cnd1 ho hq146
      refine kq rfl <| r_block <| rr <| mv rfl <| mv rfl <| ar rfl rfl .add <| s_conv (by rw [K3]; rfl) K94 (.n rfl) rfl rfl (.t rfl) ?_
      obtain ⟨x147, hx147, ho⟩ := bnd ho
      refine s_shrO hx147 (.n rfl) rfl rfl (.t rfl) (.i (by decide) (by decide)) <| s_conv (by rw [K94]; rfl) K3 (.n rfl) rfl rfl (.t rfl) <| sg rfl <| nq <| r_seq ?_
      refine r_draw [6, 10] (by kernel_rfl) ?_
      refine mv rfl <| mv rfl <| mv rfl <| mv rfl <| ar rfl rfl .sub ?_
      obtain ⟨x148, hx148, ho⟩ := bnd ho
      refine s_idxo 0 S92 hx148 (.n rfl) rfl rfl (.t rfl) rfl (.t rfl) <| s_loado 0 (fun _ h => by cases h <;> rfl) U99 FOk.self (idx_inv hx148).2.2.2 (.n rfl) rfl rfl (.t rfl) rfl <| mv rfl <| mv rfl ?_
      obtain ⟨x149, hx149, ho⟩ := bnd ho
      refine s_idxo 0 S92 hx149 (.n rfl) rfl rfl (.t rfl) rfl (.t rfl) <| s_loado 0 (fun _ h => by cases h <;> rfl) U99 FOk.self (idx_inv hx149).2.2.2 (.n rfl) rfl rfl (.t rfl) rfl ?_
      obtain ⟨y150, hy150, ho⟩ := bnd ho
      refine s_callv (X := (duty_option × duty_option)) (Y := (Int)) (f := p_4) (x := (x148, x149)) hy150 (.n rfl) rfl rfl rfl (.t rfl) (.c (.t rfl) (.c (.t rfl) .n)) ?_
      show SOps ..
      refine cmc rfl (by decide) .lss <| s_not (.n rfl) rfl rfl (.t rfl) <| nq <| ct rfl (fun hq151 => ?_) (fun hq151 => ?_)
      ·have ho := cnd1 ho hq151
       refine r_region <| mv rfl <| arc rfl (by decide) .add <| sg rfl ?_
       cases ho
       exact s_nil (fun fr h s => And.intro rfl (Exists.intro [] (s.pick [0] ⟨rfl, rfl, rfl, rfl, rfl, rfl, rfl, rfl, rfl, rfl, trivial⟩ rfl (by decide))))
      ·have ho := cnd0 ho hq151
       refine r_region <| mv rfl <| sg rfl ?_
       cases ho
       exact s_nil (fun fr h s => And.intro rfl (Exists.intro [] (s.pick [0] ⟨rfl, rfl, rfl, rfl, rfl, rfl, rfl, rfl, rfl, rfl, trivial⟩ rfl (by decide))))
     ·have ho := cnd0 ho hq146
      cases ho
      exact r_exit (fun fr h s => And.intro rfl (Exists.intro [] (s.pick [0] ⟨rfl, rfl, rfl, rfl, rfl, rfl, rfl, rfl, trivial⟩ rfl (by decide))))
    ·intro g154
     show ∀ fr h, St _ [(0, .raw v_0), (1, .val (rInt .i64) (p_1)), (2, .val (rInt .i64) (p_2)), (3, .val (rInt .i64) (p_3)), (4, .val (rFn ktab (duty_option × duty_option) (Int) (fun x => [.val rduty_option (x.1), .val rduty_option (x.2)]) (fun y => [.val (rInt .i64) (y)])) (p_4)), (18, .val (rInt .i64) ((w64 x77))), (19, .val (rInt .i64) ((w64 ((w64 x77) + p_2)))), (20, .val (rInt .i64) (t152))] [(v_0, .row rduty_option (p_0))] fr h → _
     show SRun ..
     refine rr <| mv rfl <| mv rfl <| ar rfl rfl .sub <| sg rfl <| nq <| r_seq <| r_seq ?_
     obtain ⟨c156, hc156, ho⟩ := bnd ho
     refine r_cut (τ := (Bool)) (G := Unit) (fun t => (.normal, fun _ => ([(0, .raw v_0), (1, .val (rInt .i64) (p_1)), (2, .val (rInt .i64) (p_2)), (3, .val (rInt .i64) (p_3)), (4, .val (rFn ktab (duty_option × duty_option) (Int) (fun x => [.val rduty_option (x.1), .val rduty_option (x.2)]) (fun y => [.val (rInt .i64) (y)])) (p_4)), (18, .val (rInt .i64) ((w64 x77))), (20, .val (rInt .i64) (t152)), (24, .val (rInt .i64) ((w64 ((w64 ((w64 x77) + p_2)) - t152)))), (185, .val rBool (t))], [(v_0, .row rduty_option (p_0))]))) (t := c156) ?_ ?_
     ·have ho := hc156
      clear hc156
      refine r_region <| mv rfl <| mv rfl <| cm rfl rfl .lss <| mv rfl ?_
      rcases Bool.eq_false_or_eq_true ((decide (t152 < p_2))) with hb157 | hb157
      ·have ho := cnd1 ho hb157
       refine mvg (gt1 hb157) rfl rfl rfl <| mvg (gt1 hb157) rfl rfl rfl <| s_cmp (.g rfl rfl (gt1 hb157)) rfl rfl (.t rfl) (.t rfl) .lss <| pk1 hb157 rfl (.t rfl) ?_
       cases ho
       exact s_nil (fun fr h s => And.intro rfl (Exists.intro () (s.pick [0] ⟨rfl, rfl, rfl, rfl, rfl, rfl, rfl, rfl, rfl, trivial⟩ rfl (by decide))))
      ·have ho := cnd0 ho hb157
       refine skg (gt0 hb157) rfl rfl <| skg (gt0 hb157) rfl rfl <| skg (gt0 hb157) rfl rfl <| pk0 hb157 rfl .b ?_
       cases ho
       exact s_nil (fun fr h s => And.intro rfl (Exists.intro () (s.pick [0] ⟨rfl, rfl, rfl, rfl, rfl, rfl, rfl, rfl, rfl, trivial⟩ rfl (by decide))))
     ·intro _
      show SRun ..
      refine ct rfl (fun hq158 => ?_) (fun hq158 => ?_)
      ·have ho := cnd1 ho hq158
       refine r_region <| mv rfl <| mv rfl <| mv rfl <| mv rfl <| mv rfl ?_
       obtain ⟨y159, hy159, ho⟩ := bnd ho
       refine s_callmd [0] [] (fun _ h => by cases h) (g_slices_rotateCmpFunc_duty_option_ok hy159 v_0) rfl rfl (by decide) rfl (.n rfl) rfl rfl rfl .f (.c (.t rfl) (.c (.t rfl) (.c (.t rfl) (.c (.t rfl) (.c (.t rfl) .n))))) ?_
       intro g160
       show SOps ..
       refine nq <| r_seq <| r_seq ?_
       obtain ⟨c162, hc162, ho⟩ := bnd ho
       refine r_cut (τ := (Bool)) (G := Unit) (fun t => (.normal, fun _ => ([(0, .raw v_0), (1, .val (rInt .i64) (p_1)), (3, .val (rInt .i64) (p_3)), (4, .val (rFn ktab (duty_option × duty_option) (Int) (fun x => [.val rduty_option (x.1), .val rduty_option (x.2)]) (fun y => [.val (rInt .i64) (y)])) (p_4)), (18, .val (rInt .i64) ((w64 x77))), (20, .val (rInt .i64) (t152)), (24, .val (rInt .i64) ((w64 ((w64 ((w64 x77) + p_2)) - t152)))), (199, .val rBool (t))], [(v_0, .row rduty_option (y159))]))) (t := c162) ?_ ?_
       ·have ho := hc162
        clear hc162
        refine r_region <| mv rfl <| mv rfl <| cm rfl rfl .lss <| mv rfl ?_
        rcases Bool.eq_false_or_eq_true ((decide (p_1 < t152))) with hb163 | hb163
        ·have ho := cnd1 ho hb163
         refine mvg (gt1 hb163) rfl rfl rfl <| mvg (gt1 hb163) rfl rfl rfl <| s_cmp (.g rfl rfl (gt1 hb163)) rfl rfl (.t rfl) (.t rfl) .lss <| pk1 hb163 rfl (.t rfl) ?_
         cases ho
         exact s_nil (fun fr h s => And.intro rfl (Exists.intro () (s.pick [0] ⟨rfl, rfl, rfl, rfl, rfl, rfl, rfl, rfl, trivial⟩ rfl (by decide))))
        ·have ho := cnd0 ho hb163
         refine skg (gt0 hb163) rfl rfl <| skg (gt0 hb163) rfl rfl <| skg (gt0 hb163) rfl rfl <| pk0 hb163 rfl .b ?_
         cases ho
         exact s_nil (fun fr h s => And.intro rfl (Exists.intro () (s.pick [0] ⟨rfl, rfl, rfl, rfl, rfl, rfl, rfl, rfl, trivial⟩ rfl (by decide))))
       ·intro _
        show SRun ..
        refine ct rfl (fun hq164 => ?_) (fun hq164 => ?_)
        ·have ho := cnd1 ho hq164
         refine r_region <| mv rfl <| mv rfl <| mv rfl <| mv rfl <| mv rfl ?_
         obtain ⟨y165, hy165, ho⟩ := bnd ho
         refine s_callmd [0] [] (fun _ h => by cases h) (hrec hy165 v_0) rfl rfl (by decide) rfl (.n rfl) rfl rfl rfl .f (.c (.t rfl) (.c (.t rfl) (.c (.t rfl) (.c (.t rfl) (.c (.t rfl) .n))))) ?_
         intro g166
         show SOps ..
         refine nq <| r_seq ?_
         obtain ⟨c168, hc168, ho⟩ := bnd ho
         refine r_cut (τ := (Bool)) (G := Unit) (fun t => (.normal, fun _ => ([(0, .raw v_0), (3, .val (rInt .i64) (p_3)), (4, .val (rFn ktab (duty_option × duty_option) (Int) (fun x => [.val rduty_option (x.1), .val rduty_option (x.2)]) (fun y => [.val (rInt .i64) (y)])) (p_4)), (18, .val (rInt .i64) ((w64 x77))), (24, .val (rInt .i64) ((w64 ((w64 ((w64 x77) + p_2)) - t152)))), (213, .val rBool (t))], [(v_0, .row rduty_option (y165))]))) (t := c168) ?_ ?_
         ·have ho := hc168
          clear hc168
          refine r_region <| mv rfl <| mv rfl <| cm rfl rfl .lss <| mv rfl ?_
          rcases Bool.eq_false_or_eq_true ((decide ((w64 x77) < (w64 ((w64 ((w64 x77) + p_2)) - t152))))) with hb169 | hb169
          ·have ho := cnd1 ho hb169
           refine mvg (gt1 hb169) rfl rfl rfl <| mvg (gt1 hb169) rfl rfl rfl <| s_cmp (.g rfl rfl (gt1 hb169)) rfl rfl (.t rfl) (.t rfl) .lss <| pk1 hb169 rfl (.t rfl) ?_
           cases ho
           exact s_nil (fun fr h s => And.intro rfl (Exists.intro () (s.pick [0] ⟨rfl, rfl, rfl, rfl, rfl, rfl, trivial⟩ rfl (by decide))))
          ·have ho := cnd0 ho hb169
           refine skg (gt0 hb169) rfl rfl <| skg (gt0 hb169) rfl rfl <| skg (gt0 hb169) rfl rfl <| pk0 hb169 rfl .b ?_
           cases ho
           exact s_nil (fun fr h s => And.intro rfl (Exists.intro () (s.pick [0] ⟨rfl, rfl, rfl, rfl, rfl, rfl, trivial⟩ rfl (by decide))))
         ·intro _
          show SRun ..
          refine ct rfl (fun hq170 => ?_) (fun hq170 => ?_)
          ·have ho := cnd1 ho hq170
           refine r_region <| mv rfl <| mv rfl <| mv rfl <| mv rfl <| mv rfl ?_
           obtain ⟨y171, hy171, ho⟩ := bnd ho
           refine s_callmd [0] [] (fun _ h => by cases h) (hrec hy171 v_0) rfl rfl (by decide) rfl (.n rfl) rfl rfl rfl .f (.c (.t rfl) (.c (.t rfl) (.c (.t rfl) (.c (.t rfl) (.c (.t rfl) .n))))) ?_
           intro g172
           show SOps ..
           cases ho
           exact s_nil (retm_of [0] [] (.inl rfl) .n rfl (by decide))
          ·have ho := cnd0 ho hq170
           cases ho
           exact r_skip (retm_of [0] [] (.inl rfl) .n rfl (by decide))
        ·have ho := cnd0 ho hq164
         refine kq rfl <| r_seq ?_
         obtain ⟨c174, hc174, ho⟩ := bnd ho
         refine r_cut (τ := (Bool)) (G := Unit) (fun t => (.normal, fun _ => ([(0, .raw v_0), (3, .val (rInt .i64) (p_3)), (4, .val (rFn ktab (duty_option × duty_option) (Int) (fun x => [.val rduty_option (x.1), .val rduty_option (x.2)]) (fun y => [.val (rInt .i64) (y)])) (p_4)), (18, .val (rInt .i64) ((w64 x77))), (24, .val (rInt .i64) ((w64 ((w64 ((w64 x77) + p_2)) - t152)))), (213, .val rBool (t))], [(v_0, .row rduty_option (y159))]))) (t := c174) ?_ ?_
         ·have ho := hc174
          clear hc174
          refine r_region <| mv rfl <| mv rfl <| cm rfl rfl .lss <| mv rfl ?_
          rcases Bool.eq_false_or_eq_true ((decide ((w64 x77) < (w64 ((w64 ((w64 x77) + p_2)) - t152))))) with hb175 | hb175
          ·have ho := cnd1 ho hb175
           refine mvg (gt1 hb175) rfl rfl rfl <| mvg (gt1 hb175) rfl rfl rfl <| s_cmp (.g rfl rfl (gt1 hb175)) rfl rfl (.t rfl) (.t rfl) .lss <| pk1 hb175 rfl (.t rfl) ?_
           cases ho
           exact s_nil (fun fr h s => And.intro rfl (Exists.intro () (s.pick [0] ⟨rfl, rfl, rfl, rfl, rfl, rfl, trivial⟩ rfl (by decide))))
          ·have ho := cnd0 ho hb175
           refine skg (gt0 hb175) rfl rfl <| skg (gt0 hb175) rfl rfl <| skg (gt0 hb175) rfl rfl <| pk0 hb175 rfl .b ?_
           cases ho
           exact s_nil (fun fr h s => And.intro rfl (Exists.intro () (s.pick [0] ⟨rfl, rfl, rfl, rfl, rfl, rfl, trivial⟩ rfl (by decide))))
         ·intro _
          show SRun ..
          refine ct rfl (fun hq176 => ?_) (fun hq176 => ?_)
          ·have ho := cnd1 ho hq176
           refine r_region <| mv rfl <| mv rfl <| mv rfl <| mv rfl <| mv rfl ?_
           obtain ⟨y177, hy177, ho⟩ := bnd ho
           refine s_callmd [0] [] (fun _ h => by cases h) (hrec hy177 v_0) rfl rfl (by decide) rfl (.n rfl) rfl rfl rfl .f (.c (.t rfl) (.c (.t rfl) (.c (.t rfl) (.c (.t rfl) (.c (.t rfl) .n))))) ?_
           intro g178
           show SOps ..
           cases ho
           exact s_nil (retm_of [0] [] (.inl rfl) .n rfl (by decide))
          ·have ho := cnd0 ho hq176
           cases ho
           exact r_skip (retm_of [0] [] (.inl rfl) .n rfl (by decide))
      ·have ho := cnd0 ho hq158
       refine kq rfl <| r_seq <| r_seq ?_
       obtain ⟨c180, hc180, ho⟩ := bnd ho
       refine r_cut (τ := (Bool)) (G := Unit) (fun t => (.normal, fun _ => ([(0, .raw v_0), (1, .val (rInt .i64) (p_1)), (3, .val (rInt .i64) (p_3)), (4, .val (rFn ktab (duty_option × duty_option) (Int) (fun x => [.val rduty_option (x.1), .val rduty_option (x.2)]) (fun y => [.val (rInt .i64) (y)])) (p_4)), (18, .val (rInt .i64) ((w64 x77))), (20, .val (rInt .i64) (t152)), (24, .val (rInt .i64) ((w64 ((w64 ((w64 x77) + p_2)) - t152)))), (199, .val rBool (t))], [(v_0, .row rduty_option (p_0))]))) (t := c180) ?_ ?_
       ·have ho := hc180
        clear hc180
        refine r_region <| mv rfl <| mv rfl <| cm rfl rfl .lss <| mv rfl ?_
        rcases Bool.eq_false_or_eq_true ((decide (p_1 < t152))) with hb181 | hb181
        ·have ho := cnd1 ho hb181
         refine mvg (gt1 hb181) rfl rfl rfl <| mvg (gt1 hb181) rfl rfl rfl <| s_cmp (.g rfl rfl (gt1 hb181)) rfl rfl (.t rfl) (.t rfl) .lss <| pk1 hb181 rfl (.t rfl) ?_
         cases ho
         exact s_nil (fun fr h s => And.intro rfl (Exists.intro () (s.pick [0] ⟨rfl, rfl, rfl, rfl, rfl, rfl, rfl, rfl, trivial⟩ rfl (by decide))))
        ·have ho := cnd0 ho hb181
         refine skg (gt0 hb181) rfl rfl <| skg (gt0 hb181) rfl rfl <| skg (gt0 hb181) rfl rfl <| pk0 hb181 rfl .b ?_
         cases ho
         exact s_nil (fun fr h s => And.intro rfl (Exists.intro () (s.pick [0] ⟨rfl, rfl, rfl, rfl, rfl, rfl, rfl, rfl, trivial⟩ rfl (by decide))))
       ·intro _
        show SRun ..
        refine ct rfl (fun hq182 => ?_) (fun hq182 => ?_)
        ·have ho := cnd1 ho hq182
         refine r_region <| mv rfl <| mv rfl <| mv rfl <| mv rfl <| mv rfl ?_
         obtain ⟨y183, hy183, ho⟩ := bnd ho
         refine s_callmd [0] [] (fun _ h => by cases h) (hrec hy183 v_0) rfl rfl (by decide) rfl (.n rfl) rfl rfl rfl .f (.c (.t rfl) (.c (.t rfl) (.c (.t rfl) (.c (.t rfl) (.c (.t rfl) .n))))) ?_
         intro g184
         show SOps ..
         refine nq <| r_seq ?_
         obtain ⟨c186, hc186, ho⟩ := bnd ho
         refine r_cut (τ := (Bool)) (G := Unit) (fun t => (.normal, fun _ => ([(0, .raw v_0), (3, .val (rInt .i64) (p_3)), (4, .val (rFn ktab (duty_option × duty_option) (Int) (fun x => [.val rduty_option (x.1), .val rduty_option (x.2)]) (fun y => [.val (rInt .i64) (y)])) (p_4)), (18, .val (rInt .i64) ((w64 x77))), (24, .val (rInt .i64) ((w64 ((w64 ((w64 x77) + p_2)) - t152)))), (213, .val rBool (t))], [(v_0, .row rduty_option (y183))]))) (t := c186) ?_ ?_
         ·have ho := hc186
          clear hc186
          refine r_region <| mv rfl <| mv rfl <| cm rfl rfl .lss <| mv rfl ?_
          rcases Bool.eq_false_or_eq_true ((decide ((w64 x77) < (w64 ((w64 ((w64 x77) + p_2)) - t152))))) with hb187 | hb187
          ·have ho := cnd1 ho hb187
           refine mvg (gt1 hb187) rfl rfl rfl <| mvg (gt1 hb187) rfl rfl rfl <| s_cmp (.g rfl rfl (gt1 hb187)) rfl rfl (.t rfl) (.t rfl) .lss <| pk1 hb187 rfl (.t rfl) ?_
           cases ho
           exact s_nil (fun fr h s => And.intro rfl (Exists.intro () (s.pick [0] ⟨rfl, rfl, rfl, rfl, rfl, rfl, trivial⟩ rfl (by decide))))
          ·have ho := cnd0 ho hb187
           refine skg (gt0 hb187) rfl rfl <| skg (gt0 hb187) rfl rfl <| skg (gt0 hb187) rfl rfl <| pk0 hb187 rfl .b ?_
           cases ho
           exact s_nil (fun fr h s => And.intro rfl (Exists.intro () (s.pick [0] ⟨rfl, rfl, rfl, rfl, rfl, rfl, trivial⟩ rfl (by decide))))
         ·intro _
          show SRun ..
          refine ct rfl (fun hq188 => ?_) (fun hq188 => ?_)
          ·have ho := cnd1 ho hq188
           refine r_region <| mv rfl <| mv rfl <| mv rfl <| mv rfl <| mv rfl ?_
           obtain ⟨y189, hy189, ho⟩ := bnd ho
           refine s_callmd [0] [] (fun _ h => by cases h) (hrec hy189 v_0) rfl rfl (by decide) rfl (.n rfl) rfl rfl rfl .f (.c (.t rfl) (.c (.t rfl) (.c (.t rfl) (.c (.t rfl) (.c (.t rfl) .n))))) ?_
           intro g190
           show SOps ..
           cases ho
           exact s_nil (retm_of [0] [] (.inl rfl) .n rfl (by decide))
          ·have ho := cnd0 ho hq188
           cases ho
           exact r_skip (retm_of [0] [] (.inl rfl) .n rfl (by decide))
        ·have ho := cnd0 ho hq182
         refine kq rfl <| r_seq ?_
         obtain ⟨c192, hc192, ho⟩ := bnd ho
         refine r_cut (τ := (Bool)) (G := Unit) (fun t => (.normal, fun _ => ([(0, .raw v_0), (3, .val (rInt .i64) (p_3)), (4, .val (rFn ktab (duty_option × duty_option) (Int) (fun x => [.val rduty_option (x.1), .val rduty_option (x.2)]) (fun y => [.val (rInt .i64) (y)])) (p_4)), (18, .val (rInt .i64) ((w64 x77))), (24, .val (rInt .i64) ((w64 ((w64 ((w64 x77) + p_2)) - t152)))), (213, .val rBool (t))], [(v_0, .row rduty_option (p_0))]))) (t := c192) ?_ ?_
         ·have ho := hc192
          clear hc192
          refine r_region <| mv rfl <| mv rfl <| cm rfl rfl .lss <| mv rfl ?_
          rcases Bool.eq_false_or_eq_true ((decide ((w64 x77) < (w64 ((w64 ((w64 x77) + p_2)) - t152))))) with hb193 | hb193
          ·have ho := cnd1 ho hb193
           refine mvg (gt1 hb193) rfl rfl rfl <| mvg (gt1 hb193) rfl rfl rfl <| s_cmp (.g rfl rfl (gt1 hb193)) rfl rfl (.t rfl) (.t rfl) .lss <| pk1 hb193 rfl (.t rfl) ?_
           cases ho
           exact s_nil (fun fr h s => And.intro rfl (Exists.intro () (s.pick [0] ⟨rfl, rfl, rfl, rfl, rfl, rfl, trivial⟩ rfl (by decide))))
          ·have ho := cnd0 ho hb193
           refine skg (gt0 hb193) rfl rfl <| skg (gt0 hb193) rfl rfl <| skg (gt0 hb193) rfl rfl <| pk0 hb193 rfl .b ?_
           cases ho
           exact s_nil (fun fr h s => And.intro rfl (Exists.intro () (s.pick [0] ⟨rfl, rfl, rfl, rfl, rfl, rfl, trivial⟩ rfl (by decide))))
         ·intro _
          show SRun ..
          refine ct rfl (fun hq194 => ?_) (fun hq194 => ?_)
          ·have ho := cnd1 ho hq194
           refine r_region <| mv rfl <| mv rfl <| mv rfl <| mv rfl <| mv rfl ?_
           obtain ⟨y195, hy195, ho⟩ := bnd ho
           refine s_callmd [0] [] (fun _ h => by cases h) (hrec hy195 v_0) rfl rfl (by decide) rfl (.n rfl) rfl rfl rfl .f (.c (.t rfl) (.c (.t rfl) (.c (.t rfl) (.c (.t rfl) (.c (.t rfl) .n))))) ?_
           intro g196
           show SOps ..
           cases ho
           exact s_nil (retm_of [0] [] (.inl rfl) .n rfl (by decide))
          ·have ho := cnd0 ho hq194
           cases ho
           exact r_skip (retm_of [0] [] (.inl rfl) .n rfl (by decide))
theorem g_slices_symMergeCmpFunc_duty_option_ok   {k : Nat} {p_0 : (List duty_option)} {p_1 : Int} {p_2 : Int} {p_3 : Int} {p_4 : ((duty_option × duty_option) → Option (Int))} {out : ((List duty_option))} (ho : g_slices_symMergeCmpFunc_duty_option k p_0 p_1 p_2 p_3 p_4 = some out) (v_0 : AVal) : FunM ktab 96 [.raw v_0, .val (rInt .i64) p_1, .val (rInt .i64) p_2, .val (rInt .i64) p_3, .val (rFn ktab (duty_option × duty_option) (Int) (fun x => [.val rduty_option (x.1), .val rduty_option (x.2)]) (fun y => [.val (rInt .i64) (y)])) p_4] [(v_0, .row rduty_option (p_0))] [] (fun γ => [(v_0, .row rduty_option (out))]) := by
 induction k generalizing p_0 p_1 p_2 p_3 p_4 out v_0 with
 | zero => cases ho
 | succ k ih => exact g_slices_symMergeCmpFunc_duty_option_body_ok (fun h v_0 => ih h v_0) ho v_0
theorem g_slices_stableCmpFunc_duty_option_ok   {data_0 : (List duty_option)} {n_1 : Int} {cmp_2 : ((duty_option × duty_option) → Option (Int))} {out : ((List duty_option))} (ho : g_slices_stableCmpFunc_duty_option data_0 n_1 cmp_2 = some out) (v_0 : AVal) : FunM ktab 93 [.raw v_0, .val (rInt .i64) n_1, .val (rFn ktab (duty_option × duty_option) (Int) (fun x => [.val rduty_option (x.1), .val rduty_option (x.2)]) (fun y => [.val (rInt .i64) (y)])) cmp_2] [(v_0, .row rduty_option (data_0))] [] (fun γ => [(v_0, .row rduty_option (out))]) := by
 refine funm_of (F := Try.f93) (by rfl) (by rfl) (by rfl) (fun C => ?_)
 delta g_slices_stableCmpFunc_duty_option at ho
 refine rr <| sgc (by decide) <| nq <| rr <| mv rfl <| sgc (by decide) <| sg rfl <| nq <| r_seq <| r_block ?_
 obtain ⟨t12, ht12, ho⟩ := bnd ho
 refine r_loop (σ := (Int × Int × (List duty_option))) (τ := (Int × (List duty_option))) (G := List AVal) (fun s g => ([(0, .raw v_0), (1, .val (rInt .i64) (n_1)), (2, .val (rFn ktab (duty_option × duty_option) (Int) (fun x => [.val rduty_option (x.1), .val rduty_option (x.2)]) (fun y => [.val (rInt .i64) (y)])) (cmp_2)), (6, .val (rInt .i64) (20)), (7, .val (rInt .i64) (s.1)), (8, .val (rInt .i64) (s.2.1))], [(v_0, .row rduty_option (s.2.2))])) (fun b => (.exit 0, fun g => ([(0, .raw v_0), (1, .val (rInt .i64) (n_1)), (2, .val (rFn ktab (duty_option × duty_option) (Int) (fun x => [.val rduty_option (x.1), .val rduty_option (x.2)]) (fun y => [.val (rInt .i64) (y)])) (cmp_2)), (6, .val (rInt .i64) (20)), (7, .val (rInt .i64) (b.1))], [(v_0, .row rduty_option (b.2))]))) _ [] ht12 (fun fr h s => s.pick [0] ⟨rfl, rfl, rfl, rfl, rfl, rfl, trivial⟩ rfl (by decide)) ?_ ?_ ?_
 ·intro t
  exact nx
 ·clear ho
  intro s7 g8 r13 ho
  refine r_seq <| rr <| mv rfl <| mv rfl <| cm rfl rfl .leq <| nq <| ct rfl (fun hq9 => ?_) (fun hq9 => ?_)
  ·have ho := cnd1 ho hq9
   refine kq rfl <| r_block <| rr <| mv rfl <| mv rfl <| mv rfl <| mv rfl ?_
   obtain ⟨y10, hy10, ho⟩ := bnd ho
   refine s_callmd [0] [] (fun _ h => by cases h) (g_slices_insertionSortCmpFunc_duty_option_ok hy10 v_0) rfl rfl (by decide) rfl (.n rfl) rfl rfl rfl .f (.c (.t rfl) (.c (.t rfl) (.c (.t rfl) (.c (.t rfl) .n)))) ?_
   intro g11
   show SOps ..
   refine nq <| rr <| mv rfl <| sg rfl <| nq <| r_region <| mv rfl <| mv rfl <| ar rfl rfl .add <| sg rfl ?_
   cases ho
   exact s_nil (fun fr h s => And.intro rfl (Exists.intro [] (s.pick [0] ⟨rfl, rfl, rfl, rfl, rfl, rfl, trivial⟩ rfl (by decide))))
  ·have ho := cnd0 ho hq9
   cases ho
   exact r_exit (fun fr h s => And.intro rfl (Exists.intro [] (s.pick [0] ⟨rfl, rfl, rfl, rfl, rfl, trivial⟩ rfl (by decide))))
 ·intro g14
  show ∀ fr h, St _ [(0, .raw v_0), (1, .val (rInt .i64) (n_1)), (2, .val (rFn ktab (duty_option × duty_option) (Int) (fun x => [.val rduty_option (x.1), .val rduty_option (x.2)]) (fun y => [.val (rInt .i64) (y)])) (cmp_2)), (6, .val (rInt .i64) (20)), (7, .val (rInt .i64) (t12.1))] [(v_0, .row rduty_option (t12.2))] fr h → _
  show SRun ..
  refine rr <| mv rfl <| mv rfl <| mv rfl <| mv rfl ?_
  obtain ⟨y15, hy15, ho⟩ := bnd ho
  refine s_callmd [0] [] (fun _ h => by cases h) (g_slices_insertionSortCmpFunc_duty_option_ok hy15 v_0) rfl rfl (by decide) rfl (.n rfl) rfl rfl rfl .f (.c (.t rfl) (.c (.t rfl) (.c (.t rfl) (.c (.t rfl) .n)))) ?_
  intro g16
  show SOps ..
  refine nq <| r_block ?_
  obtain ⟨t73, ht73, ho⟩ := bnd ho
  refine r_loop (σ := (Int × (List duty_option))) (τ := ((List duty_option))) (G := List AVal) (fun s g => ([(0, .raw v_0), (1, .val (rInt .i64) (n_1)), (2, .val (rFn ktab (duty_option × duty_option) (Int) (fun x => [.val rduty_option (x.1), .val rduty_option (x.2)]) (fun y => [.val (rInt .i64) (y)])) (cmp_2)), (6, .val (rInt .i64) (s.1))], [(v_0, .row rduty_option (s.2))])) (fun b => (.exit 2, fun g => ([], [(v_0, .row rduty_option (b))]))) _ [] ht73 (fun fr h s => s.pick [0] ⟨rfl, rfl, rfl, rfl, trivial⟩ rfl (by decide)) ?_ ?_ ?_
  ·intro t
   exact nx
  ·clear ho
   intro s53 g54 r74 ho
   refine r_seq <| rr <| mv rfl <| mv rfl <| cm rfl rfl .lss <| nq <| ct rfl (fun hq55 => ?_) (fun hq55 => ?_)
   ·have ho := cnd1 ho hq55
    refine kq rfl <| r_block <| rr <| mv rfl <| s_ar (.n rfl) rfl rfl (.i (by decide) (by decide)) (.t rfl) .mul <| sgc (by decide) <| sg rfl <| nq <| r_seq <| r_block ?_
    obtain ⟨t67, ht67, ho⟩ := bnd ho
    refine r_loop (σ := (Int × Int × (List duty_option))) (τ := (Int × (List duty_option))) (G := List AVal) (fun s g => ([(0, .raw v_0), (1, .val (rInt .i64) (n_1)), (2, .val (rFn ktab (duty_option × duty_option) (Int) (fun x => [.val rduty_option (x.1), .val rduty_option (x.2)]) (fun y => [.val (rInt .i64) (y)])) (cmp_2)), (6, .val (rInt .i64) (s53.1)), (7, .val (rInt .i64) (s.1)), (8, .val (rInt .i64) (s.2.1))], [(v_0, .row rduty_option (s.2.2))])) (fun b => (.exit 4, fun g => ([(0, .raw v_0), (1, .val (rInt .i64) (n_1)), (2, .val (rFn ktab (duty_option × duty_option) (Int) (fun x => [.val rduty_option (x.1), .val rduty_option (x.2)]) (fun y => [.val (rInt .i64) (y)])) (cmp_2)), (6, .val (rInt .i64) (s53.1)), (7, .val (rInt .i64) (b.1))], [(v_0, .row rduty_option (b.2))]))) _ [] ht67 (fun fr h s => s.pick [0] ⟨rfl, rfl, rfl, rfl, rfl, rfl, trivial⟩ rfl (by decide)) ?_ ?_ ?_
    ·intro t
     exact nx
    ·clear ho
     intro s62 g63 r68 ho
     refine r_seq <| rr <| mv rfl <| mv rfl <| cm rfl rfl .leq <| nq <| ct rfl (fun hq64 => ?_) (fun hq64 => ?_)
     ·have ho := cnd1 ho hq64
      refine kq rfl <| r_block <| rr <| mv rfl <| mv rfl <| mv rfl <| mv rfl <| ar rfl rfl .add <| mv rfl <| mv rfl ?_
      obtain ⟨y65, hy65, ho⟩ := bnd ho
      refine s_callmd [0] [] (fun _ h => by cases h) (g_slices_symMergeCmpFunc_duty_option_ok hy65 v_0) rfl rfl (by decide) rfl (.n rfl) rfl rfl rfl .f (.c (.t rfl) (.c (.t rfl) (.c (.t rfl) (.c (.t rfl) (.c (.t rfl) .n))))) ?_
      intro g66
      show SOps ..
      refine nq <| rr <| mv rfl <| sg rfl <| nq <| r_region <| mv rfl <| mv rfl <| s_ar (.n rfl) rfl rfl (.i (by decide) (by decide)) (.t rfl) .mul <| ar rfl rfl .add <| sg rfl ?_
      cases ho
      exact s_nil (fun fr h s => And.intro rfl (Exists.intro [] (s.pick [0] ⟨rfl, rfl, rfl, rfl, rfl, rfl, trivial⟩ rfl (by decide))))
     ·have ho := cnd0 ho hq64
      cases ho
      exact r_exit (fun fr h s => And.intro rfl (Exists.intro [] (s.pick [0] ⟨rfl, rfl, rfl, rfl, rfl, trivial⟩ rfl (by decide))))
    ·intro g69
     show ∀ fr h, St _ [(0, .raw v_0), (1, .val (rInt .i64) (n_1)), (2, .val (rFn ktab (duty_option × duty_option) (Int) (fun x => [.val rduty_option (x.1), .val rduty_option (x.2)]) (fun y => [.val (rInt .i64) (y)])) (cmp_2)), (6, .val (rInt .i64) (s53.1)), (7, .val (rInt .i64) (t67.1))] [(v_0, .row rduty_option (t67.2))] fr h → _
     show SRun ..
     refine r_seq <| rr <| mv rfl <| mv rfl <| ar rfl rfl .add <| sg rfl <| nq <| rr <| mv rfl <| mv rfl <| cm rfl rfl .lss <| nq <| ct rfl (fun hq70 => ?_) (fun hq70 => ?_)
     ·have ho := cnd1 ho hq70
      refine r_region <| mv rfl <| mv rfl <| mv rfl <| mv rfl <| mv rfl ?_
      obtain ⟨y71, hy71, ho⟩ := bnd ho
      refine s_callmd [0] [] (fun _ h => by cases h) (g_slices_symMergeCmpFunc_duty_option_ok hy71 v_0) rfl rfl (by decide) rfl (.n rfl) rfl rfl rfl .f (.c (.t rfl) (.c (.t rfl) (.c (.t rfl) (.c (.t rfl) (.c (.t rfl) .n))))) ?_
      intro g72
      show SOps ..
      refine nq <| r_region <| mv rfl <| arc rfl (by decide) .mul <| sg rfl ?_
      cases ho
      exact s_nil (fun fr h s => And.intro rfl (Exists.intro [] (s.pick [0] ⟨rfl, rfl, rfl, rfl, trivial⟩ rfl (by decide))))
     ·have ho := cnd0 ho hq70
      refine kq rfl <| r_region <| mv rfl <| arc rfl (by decide) .mul <| sg rfl ?_
      cases ho
      exact s_nil (fun fr h s => And.intro rfl (Exists.intro [] (s.pick [0] ⟨rfl, rfl, rfl, rfl, trivial⟩ rfl (by decide))))
   ·have ho := cnd0 ho hq55
    cases ho
    exact r_exit (fun fr h s => And.intro rfl (Exists.intro [] (s.pick [0] trivial rfl (by decide))))
  ·intro g75
   show ∀ fr h, St _ [] [(v_0, .row rduty_option (t73))] fr h → _
   cases ho
   exact id (retm_of [0] [] (.inl rfl) .n rfl (by decide))
theorem g_slices_SortStableFunc_duty_option_duty_option_ok   {x_0 : (List duty_option)} {cmp_1 : ((duty_option × duty_option) → Option (Int))} {out : ((List duty_option))} (ho : g_slices_SortStableFunc_duty_option_duty_option x_0 cmp_1 = some out) (v_0 : AVal) : FunM ktab 86 [.raw v_0, .val (rFn ktab (duty_option × duty_option) (Int) (fun x => [.val rduty_option (x.1), .val rduty_option (x.2)]) (fun y => [.val (rInt .i64) (y)])) cmp_1] [(v_0, .row rduty_option (x_0))] [] (fun γ => [(v_0, .row rduty_option (out))]) := by
 refine funm_of (F := Try.f86) (by rfl) (by rfl) (by rfl) (fun C => ?_)
 delta g_slices_SortStableFunc_duty_option_duty_option at ho
 refine r_region <| mv rfl <| mv rfl <| s_leno 0 S92 (.n rfl) rfl rfl rfl rfl rfl (.t rfl) rfl <| mv rfl ?_
 obtain ⟨y1, hy1, ho⟩ := bnd ho
 refine s_callmd [0] [] (fun _ h => by cases h) (g_slices_stableCmpFunc_duty_option_ok hy1 v_0) rfl rfl (by decide) rfl (.n rfl) rfl rfl rfl .f (.c (.t rfl) (.c (.t rfl) (.c (.t rfl) .n))) ?_
 intro g2
 show SOps ..
 cases ho
 exact s_nil (retm_of [0] [] (.inl rfl) .n rfl (by decide))
theorem g_duty_ordered_duty_option_ok   {l_0 : (List duty_option)} {order_1 : ((duty_option × duty_option) → Option (Int))} {out : (((List duty_option)))} (ho : g_duty_ordered_duty_option l_0 order_1 = some out) (v_0 : AVal) : FunM ktab 69 [.raw v_0, .val (rFn ktab (duty_option × duty_option) (Int) (fun x => [.val rduty_option (x.1), .val rduty_option (x.2)]) (fun y => [.val (rInt .i64) (y)])) order_1] [(v_0, .row rduty_option (l_0))] [.row rduty_option (out)] (fun γ => []) := by
 refine funm_of (F := Try.f69) (by rfl) (by rfl) (by rfl) (fun C => ?_)
 delta g_duty_ordered_duty_option at ho
 refine rr <| s_st (st_nilrow rduty_option) <| s_assign (.n rfl) rfl rfl .nilr <| nq <| rr <| mv rfl <| mv rfl ?_
 obtain ⟨y2, hy2, ho⟩ := bnd ho
 refine s_callmd [1] [0] (fun _ h => by cases h) (g_slices_SortStableFunc_duty_option_duty_option_ok hy2 v_0) rfl rfl (by decide) rfl (.n rfl) rfl rfl rfl .f (.c (.t rfl) (.c (.t rfl) .n)) ?_
 intro g3
 show SOps ..
 refine nq <| rr <| mv rfl <| sg rfl <| nq ?_
 cases ho
 exact r_ret (retm_of [] [] (.inr rfl) (.r 0 rfl rfl .n) rfl (by decide))
theorem g_cmp_Or_int_ok {vals_0 : (List Int)} {out : (Int)} (ho : g_cmp_Or_int vals_0 = some out) : Fun ktab 71 [.val (rSlice (rInt .i64)) vals_0] [.val (rInt .i64) (out)] := by
 refine fun_of (F := Try.f71) (by rfl) (by rfl) (by rfl) (fun C hC => ?_)
 delta g_cmp_Or_int at ho
 refine rr <| sgc (by decide) <| nq <| rr <| sgc (by decide) <| nq <| r_seq <| rr <| mv rfl <| ln S29 rfl rfl rfl (.t rfl) <| mvc (by decide) <| nq <| r_block ?_
 obtain ⟨t9, ht9, ho⟩ := bnd ho
 refine r_loop (σ := (Int)) (τ := Unit ⊕ (Int)) (G := List AVal) (fun s g => ([(3, .val (rInt .i64) (0)), (6, .val (rSlice (rInt .i64)) (vals_0)), (7, .val (rInt .i64) ((lenI vals_0))), (8, .val (rInt .i64) (s))], [])) (altX (fun b => (.exit 0, fun g => ([(3, .val (rInt .i64) (0))], []))) (fun b => (.ret, fun g => ([(2, .val (rInt .i64) (b))], [])))) _ [] ht9 (fun fr h s => s.pick [] ⟨rfl, rfl, rfl, rfl, trivial⟩ rfl (by decide)) ?_ ?_ ?_
 ·intro t
  rcases t with t | t
  ·exact nx
  ·exact nr
 ·clear ho
  intro s4 g5 r10 ho
  refine rr <| cm rfl rfl .lss <| nq <| r_seq <| ct rfl (fun hq6 => ?_) (fun hq6 => ?_)
  ·have ho := cnd1 ho hq6
   refine kq rfl <| r_seq <| r_block <| rr ?_
   obtain ⟨x7, hx7, ho⟩ := bnd ho
   refine ix S29 hx7 rfl rfl <| ld U3 rfl <| sg rfl <| nq <| rr <| mv rfl <| mv rfl <| cm rfl rfl .neq <| nq <| ct rfl (fun hq8 => ?_) (fun hq8 => ?_)
   ·have ho := cnd1 ho hq8
    refine rr <| mv rfl <| sg rfl <| nq ?_
    cases ho
    exact r_ret fun _ _ s => fz [] s ⟨rfl, trivial⟩ rfl
   ·have ho := cnd0 ho hq8
    refine kq rfl <| r_region <| arc rfl (by decide) .add <| mv rfl ?_
    cases ho
    exact s_nil fun _ _ s => fz [] s ⟨rfl, rfl, rfl, rfl, trivial⟩ rfl
  ·have ho := cnd0 ho hq6
   cases ho
   exact r_exit fun _ _ s => fz [] s ⟨rfl, trivial⟩ rfl
 ·clear ht9
  rcases t9 with b11 | b12
  ·have ho := alt_l ho
   intro g13
   show ∀ fr h, St _ [(3, .val (rInt .i64) (0))] [] fr h → _
   show SRun ..
   refine rr <| mv rfl <| sg rfl <| nq ?_
   cases ho
   exact r_ret (ret_of (.inr rfl) (.v rfl .n) (by decide))
  ·have ho := alt_r ho
   intro g14
   show ∀ fr h, St _ [(2, .val (rInt .i64) (b12))] [] fr h → _
   cases ho
   exact id (ret_of (.inr rfl) (.v rfl .n) (by decide))
theorem g_cmp_isNaN_int_ok {x_0 : Int} {out : (Bool)} (ho : g_cmp_isNaN_int x_0 = some out) : Fun ktab 87 [.val (rInt .i64) x_0] [.val rBool (out)] := by
 refine fun_of (F := Try.f87) (by rfl) (by rfl) (by rfl) (fun C hC => ?_)
 delta g_cmp_isNaN_int at ho
 refine rr <| sgb <| nq <| rr <| mv rfl <| mv rfl <| cm rfl rfl .neq <| sg rfl <| nq ?_
 cases ho
 exact r_ret (ret_of (.inr rfl) (.v rfl .n) (by decide))
theorem g_cmp_Compare_int_ok {x_0 : Int} {y_1 : Int} {out : (Int)} (ho : g_cmp_Compare_int x_0 y_1 = some out) : Fun ktab 73 [.val (rInt .i64) x_0, .val (rInt .i64) y_1] [.val (rInt .i64) (out)] := by
 refine fun_of (F := Try.f73) (by rfl) (by rfl) (by rfl) (fun C hC => ?_)
 delta g_cmp_Compare_int at ho
 refine rr <| sgc (by decide) <| nq <| rr <| mv rfl ?_
 obtain ⟨y1, hy1, ho⟩ := bnd ho
 refine s_calll (g_cmp_isNaN_int_ok hy1) (.v flat_bool .n) rfl (.n rfl) rfl rfl rfl .f (.c (.o (.t rfl)) .n) ?_
 show SOps ..
 refine sg rfl <| nq <| rr <| mv rfl ?_
 obtain ⟨y2, hy2, ho⟩ := bnd ho
 refine s_calll (g_cmp_isNaN_int_ok hy2) (.v flat_bool .n) rfl (.n rfl) rfl rfl rfl .f (.c (.o (.t rfl)) .n) ?_
 show SOps ..
 refine sg rfl <| nq <| r_seq <| rr <| mv rfl <| nq <| ct rfl (fun hq3 => ?_) (fun hq3 => ?_)
 ·have ho := cnd1 ho hq3
  refine r_seq <| rr <| mv rfl <| nq <| ct rfl (fun hq4 => ?_) (fun hq4 => ?_)
  ·have ho := cnd1 ho hq4
   refine rr <| sgc (by decide) <| nq ?_
   cases ho
   exact r_ret (ret_of (.inr rfl) (.v rfl .n) (by decide))
  ·have ho := cnd0 ho hq4
   refine kq rfl <| rr <| sgc (by decide) <| nq ?_
   cases ho
   exact r_ret (ret_of (.inr rfl) (.v rfl .n) (by decide))
 ·have ho := cnd0 ho hq3
  refine kq rfl <| r_seq <| rr <| mv rfl <| nq <| ct rfl (fun hq5 => ?_) (fun hq5 => ?_)
  ·have ho := cnd1 ho hq5
   refine rr <| sgc (by decide) <| nq ?_
   cases ho
   exact r_ret (ret_of (.inr rfl) (.v rfl .n) (by decide))
  ·have ho := cnd0 ho hq5
   refine kq rfl <| r_seq <| rr <| mv rfl <| mv rfl <| cm rfl rfl .lss <| nq <| ct rfl (fun hq6 => ?_) (fun hq6 => ?_)
   ·have ho := cnd1 ho hq6
    refine rr <| sgc (by decide) <| nq ?_
    cases ho
    exact r_ret (ret_of (.inr rfl) (.v rfl .n) (by decide))
   ·have ho := cnd0 ho hq6
    refine kq rfl <| r_seq <| rr <| mv rfl <| mv rfl <| cm rfl rfl .gtr <| nq <| ct rfl (fun hq7 => ?_) (fun hq7 => ?_)
    ·have ho := cnd1 ho hq7
     refine rr <| sgc (by decide) <| nq ?_
     cases ho
     exact r_ret (ret_of (.inr rfl) (.v rfl .n) (by decide))
    ·have ho := cnd0 ho hq7
     refine kq rfl <| rr <| sgc (by decide) <| nq ?_
     cases ho
     exact r_ret (ret_of (.inr rfl) (.v rfl .n) (by decide))
theorem g_duty_pieced_ok {a_0 : DutyPiece} {b_1 : DutyPiece} {out : (Int)} (ho : g_duty_pieced a_0 b_1 = some out) : Fun ktab 72 [.val rDutyPiece a_0, .val rDutyPiece b_1] [.val (rInt .i64) (out)] := by
 refine fun_of (F := Try.f72) (by rfl) (by rfl) (by rfl) (fun C hC => ?_)
 delta g_duty_pieced at ho
 refine rr <| bx rfl <| bx rfl <| sgc (by decide) <| nq <| r_seq ?_
 refine r_draw [] (by kernel_rfl) ?_
 refine fa F78_0 fk_DutyPiece_0 (by decide) rfl <| ld U3 rfl <| fa F78_0 fk_DutyPiece_0 (by decide) rfl <| ld U3 rfl ?_
 obtain ⟨y1, hy1, ho⟩ := bnd ho
 refine s_calll (g_cmp_Compare_int_ok hy1) (.v flat_int .n) rfl (.n rfl) rfl rfl rfl .f (.c (.o (.t rfl)) (.c (.o (.t rfl)) .n)) ?_
 show SOps ..
 refine fa F78_1 fk_DutyPiece_1 (by decide) rfl <| ld U3 rfl <| fa F78_1 fk_DutyPiece_1 (by decide) rfl <| ld U3 rfl ?_
 obtain ⟨y2, hy2, ho⟩ := bnd ho
 refine s_calll (g_cmp_Compare_int_ok hy2) (.v flat_int .n) rfl (.n rfl) rfl rfl rfl .f (.c (.o (.t rfl)) (.c (.o (.t rfl)) .n)) ?_
 show SOps ..
 refine fa F78_2 fk_DutyPiece_2 (by decide) rfl <| ld U3 rfl <| fa F78_2 fk_DutyPiece_2 (by decide) rfl <| ld U3 rfl ?_
 obtain ⟨y3, hy3, ho⟩ := bnd ho
 refine s_calll (g_cmp_Compare_int_ok hy3) (.v flat_int .n) rfl (.n rfl) rfl rfl rfl .f (.c (.o (.t rfl)) (.c (.o (.t rfl)) .n)) ?_
 show SOps ..
 refine s_bs (R := (rInt .i64)) S29 Y3 (.n rfl) rfl rfl (.c (.t rfl) (.c (.t rfl) (.c (.t rfl) .n))) rfl (by decide) ?_
 obtain ⟨y4, hy4, ho⟩ := bnd ho
 refine s_calll (g_cmp_Or_int_ok hy4) (.v flat_int .n) rfl (.n rfl) rfl rfl rfl .f (.c (.o (.t rfl)) .n) ?_
 show SOps ..
 refine sg rfl <| nq ?_
 cases ho
 exact r_ret (ret_of (.inr rfl) (.v rfl .n) (by decide))
theorem g_duty_crew_options_3_ok {a_0 : duty_option} {b_1 : duty_option} {out : (Int)} (ho : g_duty_crew_options_3 a_0 b_1 = some out) : Fun ktab 70 [.val rduty_option a_0, .val rduty_option b_1] [.val (rInt .i64) (out)] := by
 refine fun_of (F := Try.f70) (by rfl) (by rfl) (by rfl) (fun C hC => ?_)
 delta g_duty_crew_options_3 at ho
 refine rr <| bx rfl <| bx rfl <| sgc (by decide) <| nq <| r_seq ?_
 refine r_draw [] (by kernel_rfl) ?_
 refine fa F99_0 fk_duty_option_0 (by decide) rfl <| fa F62_0 fk_Duty_0 (by decide) rfl <| ld U60 rfl <| fa F99_0 fk_duty_option_0 (by decide) rfl <| fa F62_0 fk_Duty_0 (by decide) rfl <| ld U60 rfl <| sg rfl <| sg rfl <| nq <| r_seq <| r_seq ?_
 refine r_draw [] (by kernel_rfl) ?_
 refine mv rfl ?_
 obtain ⟨x1, hx1, ho⟩ := bnd ho
 refine s_idx S60 hx1 (.n rfl) rfl rfl (.t rfl) (.i (by decide) (by decide)) <| ld U78 rfl <| mv rfl ?_
 obtain ⟨x2, hx2, ho⟩ := bnd ho
 refine s_idx S60 hx2 (.n rfl) rfl rfl (.t rfl) (.i (by decide) (by decide)) <| ld U78 rfl ?_
 obtain ⟨y3, hy3, ho⟩ := bnd ho
 refine s_calll (g_duty_pieced_ok hy3) (.v flat_int .n) rfl (.n rfl) rfl rfl rfl .f (.c (.o (.t rfl)) (.c (.o (.t rfl)) .n)) ?_
 show SOps ..
 refine mv rfl <| ln S60 rfl rfl rfl (.t rfl) <| mv rfl <| ln S60 rfl rfl rfl (.t rfl) ?_
 obtain ⟨y4, hy4, ho⟩ := bnd ho
 refine s_calll (g_cmp_Compare_int_ok hy4) (.v flat_int .n) rfl (.n rfl) rfl rfl rfl .f (.c (.o (.t rfl)) (.c (.o (.t rfl)) .n)) ?_
 show SOps ..
 refine s_bs (R := (rInt .i64)) S29 Y3 (.n rfl) rfl rfl (.c (.t rfl) (.c (.t rfl) .n)) rfl (by decide) ?_
 obtain ⟨y5, hy5, ho⟩ := bnd ho
 refine s_calll (g_cmp_Or_int_ok hy5) (.v flat_int .n) rfl (.n rfl) rfl rfl rfl .f (.c (.o (.t rfl)) .n) ?_
 show SOps ..
 refine sg rfl <| nq <| r_seq ?_
 obtain ⟨c7, hc7, ho⟩ := bnd ho
 refine r_cut (τ := (Bool)) (G := Unit) (fun t => (.normal, fun _ => ([(5, .val (rSlice rDutyPiece) (a_0.1.1)), (6, .val (rSlice rDutyPiece) (b_1.1.1)), (7, .val (rInt .i64) (y5)), (34, .val rBool (t))], []))) (t := c7) ?_ ?_
 ·have ho := hc7
  clear hc7
  refine r_region <| mv rfl <| cmc rfl (by decide) .neq <| mv rfl ?_
  rcases Bool.eq_false_or_eq_true ((y5 != 0)) with hb8 | hb8
  ·have ho := cnd1 ho hb8
   refine skg (gf1 hb8) rfl rfl <| skg (gf1 hb8) rfl rfl <| skg (gf1 hb8) rfl rfl <| pk1 hb8 rfl .b ?_
   cases ho
   exact s_nil fun _ _ s => fz () s ⟨rfl, rfl, rfl, rfl, trivial⟩ rfl
  ·have ho := cnd0 ho hb8
   refine mvg (gf0 hb8) rfl rfl rfl <| s_len S60 (.g rfl rfl (gf0 hb8)) rfl rfl rfl rfl rfl (.t rfl) <| s_cmp (.g rfl rfl (gf0 hb8)) rfl rfl (.t rfl) (.i (by decide) (by decide)) .eql <| pk0 hb8 rfl (.t rfl) ?_
   cases ho
   exact s_nil fun _ _ s => fz () s ⟨rfl, rfl, rfl, rfl, trivial⟩ rfl
 ·intro _
  show SRun ..
  refine ct rfl (fun hq9 => ?_) (fun hq9 => ?_)
  ·have ho := cnd1 ho hq9
   refine rr <| mv rfl <| sg rfl <| nq ?_
   cases ho
   exact r_ret (ret_of (.inr rfl) (.v rfl .n) (by decide))
  ·have ho := cnd0 ho hq9
   refine kq rfl <| r_seq ?_
   refine r_draw [] (by kernel_rfl) ?_
   refine mv rfl ?_
   obtain ⟨x10, hx10, ho⟩ := bnd ho
   refine s_idx S60 hx10 (.n rfl) rfl rfl (.t rfl) (.i (by decide) (by decide)) <| ld U78 rfl <| mv rfl ?_
   obtain ⟨x11, hx11, ho⟩ := bnd ho
   refine s_idx S60 hx11 (.n rfl) rfl rfl (.t rfl) (.i (by decide) (by decide)) <| ld U78 rfl ?_
   obtain ⟨y12, hy12, ho⟩ := bnd ho
   refine s_calll (g_duty_pieced_ok hy12) (.v flat_int .n) rfl (.n rfl) rfl rfl rfl .f (.c (.o (.t rfl)) (.c (.o (.t rfl)) .n)) ?_
   show SOps ..
   refine sg rfl <| nq ?_
   cases ho
   exact r_ret (ret_of (.inr rfl) (.v rfl .n) (by decide))
theorem g_duty_crew_options_ok {c_0 : duty_crew} {out : ((List duty_option))} (ho : g_duty_crew_options c_0 = some out) : Fun ktab 45 [.val (rPtr rduty_crew) c_0] [.row rduty_option (out)] := by
 refine fun_of (F := Try.f45) (by rfl) (by rfl) (by rfl) (fun C hC => ?_)
 delta g_duty_crew_options at ho
 refine rr <| bx rfl <| s_st (st_nilrow rduty_option) <| s_assign (.n rfl) rfl rfl .nilr <| nq <| rr <| s_mkfn (X := (DutyPiece)) (Y := (Int)) (fun x => [.val rDutyPiece (x)]) (fun y => [.val (rInt .u64) (y)]) (f := (fun x => g_duty_crew_options_1 x c_0)) (fun x y hf => g_duty_crew_options_1_ok hf) rfl (.n rfl) rfl rfl .n (.c (.t rfl) .n) ?_
 refine sg rfl <| nq <| rr <| s_st (st_nilrow rduty_option) <| s_alloc (zv := .nilslice) (es := [.raw .nilslice]) (by kernel_rfl) (fun _ => (okraw okn)) rfl (.n rfl) rfl rfl ?_
 intro b3
 refine nq <| rr <| s_mkclo (.n rfl) rfl rfl .n (.c (.t rfl) (.c (.t rfl) .n)) <| sg rfl <| nq <| rr <| ld U89 rfl ?_
 obtain ⟨y5, hy5, ho⟩ := bnd ho
 refine s_calll (g_duty_crew_pieces_ok hy5) (.r (flat_pair flat_int (flat_pair flat_int (flat_pair flat_int flat_unit))) .n) rfl (.n rfl) rfl rfl rfl .f (.c (.o (.t rfl)) .n) ?_
 intro v6
 show SOps ..
 refine sg rfl <| nq <| r_seq <| rr <| mv rfl <| s_leno 0 S60 (.n rfl) rfl rfl rfl rfl rfl (.t rfl) rfl <| mvc (by decide) <| nq <| r_block ?_
 obtain ⟨t179, ht179, ho⟩ := bnd ho
 refine r_loop (σ := (Int × (List duty_option))) (τ := ((List duty_option))) (G := List AVal) (fun s g => ([(3, .val (rFn ktab (DutyPiece) (Int) (fun x => [.val rDutyPiece (x)]) (fun y => [.val (rInt .u64) (y)])) ((fun x => g_duty_crew_options_1 x c_0))), (4, .raw (.ptr b3 0)), (5, .val (rClo 67 [] [.val (rPtr (rPtr rduty_crew)) (c_0), .raw (.ptr b3 0)]) ()), (6, .raw v6), (15, .raw v6), (16, .val (rInt .i64) ((lenI y5))), (17, .val (rInt .i64) (s.1))], [(v6, .row rDutyPiece (y5)), (.ptr b3 0, .box [.raw ((gh g 0))]), ((gh g 0), .row rduty_option (s.2))])) (fun b => (.exit 0, fun g => ([(4, .raw (.ptr b3 0))], [(.ptr b3 0, .box [.raw ((gh g 0))]), ((gh g 0), .row rduty_option (b))]))) _ [.nilslice] ht179 (fun fr h s => s.pick [0, 1, 2] ⟨rfl, rfl, rfl, rfl, rfl, rfl, rfl, trivial⟩ rfl (by decide)) ?_ ?_ ?_
 ·intro t
  exact nx
 ·clear ho
  intro s118 g119 r180 ho
  refine rr <| cm rfl rfl .lss <| nq <| r_seq <| ct rfl (fun hq123 => ?_) (fun hq123 => ?_)
  ·have ho := cnd1 ho hq123
   refine kq rfl <| r_seq <| r_block <| rr ?_
   obtain ⟨x124, hx124, ho⟩ := bnd ho
   refine s_idxo 0 S60 hx124 (.n rfl) rfl rfl (.t rfl) rfl (.t rfl) <| s_loado 0 (fun _ h => by cases h <;> rfl) U78 FOk.self (idx_inv hx124).2.2.2 (.n rfl) rfl rfl (.t rfl) rfl <| s_alloc (zv := .agg [.int .i64 0, .int .i64 0, .int .i64 0]) (es := [.val (rInt .i64) (0), .val (rInt .i64) (0), .val (rInt .i64) (0)]) (by kernel_rfl) (fun _ => (okint (okint (okint okn)))) rfl (.n rfl) rfl rfl ?_
   intro b125
   refine s_storebs 0 U78 rfl (c1 rfl (c1 rfl (c1 rfl cells_unit))) (by rfl) (.n rfl) rfl rfl (.t rfl) (.t rfl) (by rfl) <| s_st (st_freezeb (R := rDutyPiece) (a := x124) 0 [8] (c1 rfl (c1 rfl (c1 rfl cells_unit))) rfl rfl ⟨rfl, trivial⟩) ?_
   refine nq <| r_seq ?_
   refine r_draw [] (by kernel_rfl) ?_
   refine mv rfl <| mv rfl <| ld U78 rfl ?_
   obtain ⟨y127, hy127, ho⟩ := bnd ho
   refine s_callv (X := (DutyPiece)) (Y := (Int)) (f := (fun x => g_duty_crew_options_1 x c_0)) (x := x124) hy127 (.n rfl) rfl rfl rfl (.t rfl) (.c (.t rfl) .n) ?_
   show SOps ..
   refine ld U78 rfl <| s_bs (R := rDutyPiece) S60 Y78 (.n rfl) rfl rfl (.c (.t rfl) .n) rfl (by decide) ?_
   obtain ⟨y128, hy128, ho⟩ := bnd ho
   refine s_callcd (ps := []) (es := [.val (rInt .u64) (y127), .val (rSlice rDutyPiece) ([x124])]) (cs := [.val (rPtr (rPtr rduty_crew)) (c_0), .raw (.ptr b3 0)]) [1, 2] [0] (fun _ h => by cases h <;> exact ⟨by kernel_rfl, by kernel_rfl⟩) (g_duty_crew_options_2_ok hy128 b3 ((gh g119 0))) rfl rfl (by decide) rfl (.n rfl) rfl rfl rfl (.t rfl) (.c (.t rfl) (.c (.t rfl) .n)) ?_
   intro g129
   show SOps ..
   refine nq <| rr <| mv rfl <| s_leno 2 S60 (.n rfl) rfl rfl rfl rfl rfl (.t rfl) rfl <| mvc (by decide) <| nq <| r_block ?_
   obtain ⟨t173, ht173, ho⟩ := bnd ho
   refine r_loop (σ := (Int × (List duty_option))) (τ := ((List duty_option))) (G := List AVal) (fun s g => ([(3, .val (rFn ktab (DutyPiece) (Int) (fun x => [.val rDutyPiece (x)]) (fun y => [.val (rInt .u64) (y)])) ((fun x => g_duty_crew_options_1 x c_0))), (4, .raw (.ptr b3 0)), (5, .val (rClo 67 [] [.val (rPtr (rPtr rduty_crew)) (c_0), .raw (.ptr b3 0)]) ()), (6, .raw v6), (8, .val (rPtr rDutyPiece) (x124)), (15, .raw v6), (16, .val (rInt .i64) ((lenI y5))), (17, .val (rInt .i64) (s118.1)), (28, .raw v6), (29, .val (rInt .i64) ((lenI y5))), (30, .val (rInt .i64) (s.1))], [(.ptr b3 0, .box [.raw ((gh g 0))]), (v6, .row rDutyPiece (y5)), ((gh g 0), .row rduty_option (s.2))])) (fun b => (.exit 2, fun g => ([(3, .val (rFn ktab (DutyPiece) (Int) (fun x => [.val rDutyPiece (x)]) (fun y => [.val (rInt .u64) (y)])) ((fun x => g_duty_crew_options_1 x c_0))), (4, .raw (.ptr b3 0)), (5, .val (rClo 67 [] [.val (rPtr (rPtr rduty_crew)) (c_0), .raw (.ptr b3 0)]) ()), (6, .raw v6), (15, .raw v6), (16, .val (rInt .i64) ((lenI y5))), (17, .val (rInt .i64) (s118.1))], [(.ptr b3 0, .box [.raw ((gh g 0))]), (v6, .row rDutyPiece (y5)), ((gh g 0), .row rduty_option (b))]))) _ [(gh g129 0)] ht173 (fun fr h s => s.pick [0, 2, 1] ⟨rfl, rfl, rfl, rfl, rfl, rfl, rfl, rfl, rfl, rfl, rfl, trivial⟩ rfl (by decide)) ?_ ?_ ?_
   ·intro t
    exact nx
   ·clear ho
    intro s154 g155 r174 ho
    refine rr <| cm rfl rfl .lss <| nq <| r_seq <| ct rfl (fun hq159 => ?_) (fun hq159 => ?_)
    ·have ho := cnd1 ho hq159
     refine kq rfl <| r_seq <| r_block <| rr ?_
     obtain ⟨x160, hx160, ho⟩ := bnd ho
     refine s_idxo 1 S60 hx160 (.n rfl) rfl rfl (.t rfl) rfl (.t rfl) <| s_loado 1 (fun _ h => by cases h <;> rfl) U78 FOk.self (idx_inv hx160).2.2.2 (.n rfl) rfl rfl (.t rfl) rfl <| s_alloc (zv := .agg [.int .i64 0, .int .i64 0, .int .i64 0]) (es := [.val (rInt .i64) (0), .val (rInt .i64) (0), .val (rInt .i64) (0)]) (by kernel_rfl) (fun _ => (okint (okint (okint okn)))) rfl (.n rfl) rfl rfl ?_
     intro b161
     refine s_storebs 0 U78 rfl (c1 rfl (c1 rfl (c1 rfl cells_unit))) (by rfl) (.n rfl) rfl rfl (.t rfl) (.t rfl) (by rfl) <| s_st (st_freezeb (R := rDutyPiece) (a := x160) 0 [10] (c1 rfl (c1 rfl (c1 rfl cells_unit))) rfl rfl ⟨rfl, trivial⟩) ?_
     refine nq <| r_seq ?_
     refine r_draw [] (by kernel_rfl) ?_
     refine mv rfl <| ld U78 rfl ?_
     obtain ⟨y163, hy163, ho⟩ := bnd ho
     refine s_callv (X := (DutyPiece)) (Y := (Int)) (f := (fun x => g_duty_crew_options_1 x c_0)) (x := x124) hy163 (.n rfl) rfl rfl rfl (.t rfl) (.c (.t rfl) .n) ?_
     show SOps ..
     refine mv rfl <| ld U78 rfl ?_
     obtain ⟨y164, hy164, ho⟩ := bnd ho
     refine s_callv (X := (DutyPiece)) (Y := (Int)) (f := (fun x => g_duty_crew_options_1 x c_0)) (x := x160) hy164 (.n rfl) rfl rfl rfl (.t rfl) (.c (.t rfl) .n) ?_
     show SOps ..
     refine ar rfl rfl .and <| cmc rfl (by decide) .eql <| nq <| ct rfl (fun hq165 => ?_) (fun hq165 => ?_)
     ·have ho := cnd1 ho hq165
      refine r_draw [] (by kernel_rfl) ?_
      refine mv rfl <| mv rfl <| ld U78 rfl ?_
      obtain ⟨y166, hy166, ho⟩ := bnd ho
      refine s_callv (X := (DutyPiece)) (Y := (Int)) (f := (fun x => g_duty_crew_options_1 x c_0)) (x := x124) hy166 (.n rfl) rfl rfl rfl (.t rfl) (.c (.t rfl) .n) ?_
      show SOps ..
      refine mv rfl <| ld U78 rfl ?_
      obtain ⟨y167, hy167, ho⟩ := bnd ho
      refine s_callv (X := (DutyPiece)) (Y := (Int)) (f := (fun x => g_duty_crew_options_1 x c_0)) (x := x160) hy167 (.n rfl) rfl rfl rfl (.t rfl) (.c (.t rfl) .n) ?_
      show SOps ..
      refine ar rfl rfl .or <| ld U78 rfl <| ld U78 rfl <| s_bs (R := rDutyPiece) S60 Y78 (.n rfl) rfl rfl (.c (.t rfl) (.c (.t rfl) .n)) rfl (by decide) ?_
      obtain ⟨y168, hy168, ho⟩ := bnd ho
      refine s_callcd (ps := []) (es := [.val (rInt .u64) ((bOr .u64 y166 y167)), .val (rSlice rDutyPiece) ([x124, x160])]) (cs := [.val (rPtr (rPtr rduty_crew)) (c_0), .raw (.ptr b3 0)]) [0, 2] [1] (fun _ h => by cases h <;> exact ⟨by kernel_rfl, by kernel_rfl⟩) (g_duty_crew_options_2_ok hy168 b3 ((gh g155 0))) rfl rfl (by decide) rfl (.n rfl) rfl rfl rfl (.t rfl) (.c (.t rfl) (.c (.t rfl) .n)) ?_
      intro g169
      show SOps ..
      refine nq <| r_region <| arc rfl (by decide) .add <| mv rfl ?_
      cases ho
      exact s_nil (fun fr h s => And.intro rfl (Exists.intro [(gh g169 0)] (s.pick [0, 2, 1] ⟨rfl, rfl, rfl, rfl, rfl, rfl, rfl, rfl, rfl, rfl, rfl, trivial⟩ rfl (by decide))))
     ·have ho := cnd0 ho hq165
      refine kq rfl <| r_region <| arc rfl (by decide) .add <| mv rfl ?_
      cases ho
      exact s_nil (fun fr h s => And.intro rfl (Exists.intro [(gh g155 0)] (s.pick [0, 1, 2] ⟨rfl, rfl, rfl, rfl, rfl, rfl, rfl, rfl, rfl, rfl, rfl, trivial⟩ rfl (by decide))))
    ·have ho := cnd0 ho hq159
     cases ho
     exact r_exit (fun fr h s => And.intro rfl (Exists.intro [(gh g155 0)] (s.pick [0, 1, 2] ⟨rfl, rfl, rfl, rfl, rfl, rfl, rfl, trivial⟩ rfl (by decide))))
   ·intro g175
    show ∀ fr h, St _ [(3, .val (rFn ktab (DutyPiece) (Int) (fun x => [.val rDutyPiece (x)]) (fun y => [.val (rInt .u64) (y)])) ((fun x => g_duty_crew_options_1 x c_0))), (4, .raw (.ptr b3 0)), (5, .val (rClo 67 [] [.val (rPtr (rPtr rduty_crew)) (c_0), .raw (.ptr b3 0)]) ()), (6, .raw v6), (15, .raw v6), (16, .val (rInt .i64) ((lenI y5))), (17, .val (rInt .i64) (s118.1))] [(.ptr b3 0, .box [.raw ((gh g175 0))]), (v6, .row rDutyPiece (y5)), ((gh g175 0), .row rduty_option (t173))] fr h → _
    show SRun ..
    refine r_region <| arc rfl (by decide) .add <| mv rfl ?_
    cases ho
    exact s_nil (fun fr h s => And.intro rfl (Exists.intro [(gh g175 0)] (s.pick [1, 0, 2] ⟨rfl, rfl, rfl, rfl, rfl, rfl, rfl, trivial⟩ rfl (by decide))))
  ·have ho := cnd0 ho hq123
   cases ho
   exact r_exit (fun fr h s => And.intro rfl (Exists.intro [(gh g119 0)] (s.pick [1, 2] ⟨rfl, trivial⟩ rfl (by decide))))
 ·intro g181
  show ∀ fr h, St _ [(4, .raw (.ptr b3 0))] [(.ptr b3 0, .box [.raw ((gh g181 0))]), ((gh g181 0), .row rduty_option (t179))] fr h → _
  show SRun ..
  refine rr <| s_loadb 0 (fun _ h => by cases h <;> rfl) (U92).agg rfl (.n rfl) rfl rfl (.t rfl) rfl ?_
  obtain ⟨y183, hy183, ho⟩ := bnd ho
  refine s_callmd [1] [0] (fun _ h => by cases h) (g_duty_ordered_duty_option_ok hy183 ((gh g181 0))) rfl rfl (by decide) rfl (.n rfl) rfl rfl rfl .f (.c (.t rfl) (.c (.fv (opd_fn (fun x y hf => g_duty_crew_options_3_ok hf) rfl)) .n)) ?_
  intro g184
  intro v185
  show SOps ..
  refine sg rfl <| nq ?_
  cases ho
  exact r_ret (ret_of (.inr rfl) (.r 0 rfl rfl .n) (by decide))
theorem g_duty_Duties_ok {p_0 : (List Task)} {p_1 : Yard} {p_2 : (List (List Int))} {p_3 : WorkRules} {out : ((List Duty) × Int)} (ho : g_duty_Duties p_0 p_1 p_2 p_3 = some out) : Fun ktab 22 [.val (rSlice rTask) p_0, .val rYard p_1, .val (rSlice (rSlice (rInt .i64))) p_2, .val rWorkRules p_3] [.row rDuty (out.1), .val (rInt .i64) (out.2)] := by
 refine fun_of (F := Try.f22) (by rfl) (by rfl) (by rfl) (fun C hC => ?_)
 delta g_duty_Duties at ho
 refine rr <| bx rfl <| bx rfl <| s_st (st_nilrow rDuty) <| s_assign (.n rfl) rfl rfl .nilr <| sgc (by decide) <| nq ?_
 refine r_scope (by exact ret_goto) ?_
 refine rr <| mv rfl <| ld U26 rfl <| mv rfl <| ld U42 rfl ?_
 obtain ⟨y2, hy2, ho⟩ := bnd ho
 refine s_call (pre := []) (post := []) (vs := []) (g_duty_crewed_ok hy2) rfl (.n rfl) rfl rfl rfl .f (.c (.t rfl) (.c (.t rfl) (.c (.t rfl) (.c (.t rfl) .n)))) ?_
 show SOps ..
 refine mv rfl <| ext rfl rfl <| ext rfl rfl <| sg rfl <| sg rfl <| nq <| r_seq <| r_block <| rr <| mv rfl <| s_not (.n rfl) rfl rfl (.t rfl) <| sg rfl <| nq <| ct rfl (fun hq3 => ?_) (fun hq3 => ?_)
 ·have ho := cnd1 ho hq3
  refine rr <| s_st (st_nilrow rDuty) <| s_assign (.n rfl) rfl rfl .nilr <| sgc (by decide) <| nq ?_
  cases ho
  exact r_ret (ret_of (.inr rfl) (.r 0 rfl rfl (.v rfl .n)) (by decide))
 ·have ho := cnd0 ho hq3
  refine rr <| mv rfl <| ln S22 rfl rfl rfl (.t rfl) <| cmc rfl (by decide) .gtr <| sg rfl <| nq <| ct rfl (fun hq5 => ?_) (fun hq5 => ?_)
  ·have ho := cnd1 ho hq5
   refine rr <| s_st (st_nilrow rDuty) <| s_assign (.n rfl) rfl rfl .nilr <| sgc (by decide) <| nq ?_
   cases ho
   exact r_ret (ret_of (.inr rfl) (.r 0 rfl rfl (.v rfl .n)) (by decide))
  ·have ho := cnd0 ho hq5
   refine kq rfl <| rr <| mv rfl ?_
   obtain ⟨p7, hp7, ho⟩ := bnd ho
   refine s_st (st_someptr (n := 47) hp7 rfl) ?_
   obtain ⟨y8, hy8, ho⟩ := bnd ho
   refine s_call (pre := []) (post := []) (vs := []) (g_duty_crew_options_ok hy8) rfl (.n rfl) rfl rfl rfl .f (.c (.t rfl) .n) ?_
   intro v9
   show SOps ..
   refine sg rfl <| nq <| rr <| mv rfl <| ln S22 rfl rfl rfl (.t rfl) ?_
   obtain ⟨x11, hx11, ho⟩ := bnd ho
   refine s_shlO hx11 (.n rfl) rfl rfl (.i (by decide) (by decide)) (.t rfl) <| arc rfl (by decide) .sub <| sg rfl <| nq <| rr <| s_mkmap rduty_cost MP97 rfl (.n rfl) rfl rfl ?_
   intro b12
   refine s_build (R := rduty_cost) B96 (.n rfl) rfl rfl rfl (.z (fun _ => zint) (.z (fun _ => zint) (.n rfl))) ?_
   refine s_mapset 0 MP97 (.inr rfl) rfl (.n rfl) rfl (.t rfl) (.i (by decide) (by decide)) (.t rfl) rfl <| mv rfl <| sg rfl <| nq <| r_seq <| rr <| mv rfl <| arc rfl (by decide) .add <| mvc (by decide) <| nq <| r_block ?_
   obtain ⟨t286, ht286, ho⟩ := bnd ho
   refine r_loop (σ := (Int × (List (Int × duty_cost)))) (τ := ((List (Int × duty_cost)))) (G := List AVal) (fun s g => ([(12, .raw v9), (13, .val (rInt .u64) ((IntKind.u64.wrap (x11 - 1)))), (14, .raw (.map b12)), (57, .val (rInt .u64) ((IntKind.u64.wrap ((IntKind.u64.wrap (x11 - 1)) + 1)))), (58, .val (rInt .u64) (s.1))], [(.map b12, .mp rduty_cost .u64 (s.2)), (v9, .row rduty_option (y8))])) (fun b => (.exit 1, fun g => ([(12, .raw v9), (13, .val (rInt .u64) ((IntKind.u64.wrap (x11 - 1)))), (14, .raw (.map b12))], [(.map b12, .mp rduty_cost .u64 (b)), (v9, .row rduty_option (y8))]))) _ [] ht286 (fun fr h s => s.pick [0, 1] ⟨rfl, rfl, rfl, rfl, rfl, trivial⟩ rfl (by decide)) ?_ ?_ ?_
   ·intro t
    exact nx
   ·clear ho
    intro s194 g195 r287 ho
    refine rr <| cm rfl rfl .lss <| nq <| r_seq <| ct rfl (fun hq196 => ?_) (fun hq196 => ?_)
    ·have ho := cnd1 ho hq196
     refine kq rfl <| r_seq <| r_block <| rr <| mv rfl <| sg rfl <| nq <| rr <| mv rfl <| mv rfl <| s_neg (.n rfl) rfl rfl (.t rfl) <| ar rfl rfl .and <| sg rfl <| nq <| rr <| mv rfl <| s_leno 1 S92 (.n rfl) rfl rfl rfl rfl rfl (.t rfl) rfl <| mvc (by decide) <| nq <| r_block ?_
     obtain ⟨t283, ht283, ho⟩ := bnd ho
     refine r_loop (σ := (Int × (List (Int × duty_cost)))) (τ := ((List (Int × duty_cost)))) (G := List AVal) (fun s g => ([(12, .raw v9), (13, .val (rInt .u64) ((IntKind.u64.wrap (x11 - 1)))), (14, .raw (.map b12)), (15, .val (rInt .u64) (s194.1)), (16, .val (rInt .u64) ((bAnd .u64 s194.1 ((IntKind.u64.wrap (0 - s194.1)))))), (57, .val (rInt .u64) ((IntKind.u64.wrap ((IntKind.u64.wrap (x11 - 1)) + 1)))), (58, .val (rInt .u64) (s194.1)), (65, .raw v9), (66, .val (rInt .i64) ((lenI y8))), (67, .val (rInt .i64) (s.1))], [(.map b12, .mp rduty_cost .u64 (s.2)), (v9, .row rduty_option (y8))])) (fun b => (.exit 3, fun g => ([(12, .raw v9), (13, .val (rInt .u64) ((IntKind.u64.wrap (x11 - 1)))), (14, .raw (.map b12)), (57, .val (rInt .u64) ((IntKind.u64.wrap ((IntKind.u64.wrap (x11 - 1)) + 1)))), (58, .val (rInt .u64) (s194.1))], [(.map b12, .mp rduty_cost .u64 (b)), (v9, .row rduty_option (y8))]))) _ [] ht283 (fun fr h s => s.pick [0, 1] ⟨rfl, rfl, rfl, rfl, rfl, rfl, rfl, rfl, rfl, rfl, trivial⟩ rfl (by decide)) ?_ ?_ ?_
     ·intro t
      exact nx
     ·clear ho
      intro s253 g254 r284 ho
      refine rr <| cm rfl rfl .lss <| nq <| r_seq <| ct rfl (fun hq255 => ?_) (fun hq255 => ?_)
      ·have ho := cnd1 ho hq255
       refine kq rfl <| r_seq <| r_block <| rr ?_
       obtain ⟨x256, hx256, ho⟩ := bnd ho
       refine s_idxo 1 S92 hx256 (.n rfl) rfl rfl (.t rfl) rfl (.t rfl) <| s_loado 1 (fun _ h => by cases h <;> rfl) U99 FOk.self (idx_inv hx256).2.2.2 (.n rfl) rfl rfl (.t rfl) rfl <| s_alloc (zv := .agg [.nilslice, .int .u64 0, .int .i64 0]) (es := [.val (rSlice rDutyPiece) ([]), .val (rInt .u64) (0), .val (rInt .i64) (0)]) (by kernel_rfl) (fun _ => (oknil (okint (okint okn)))) rfl (.n rfl) rfl rfl ?_
       intro b257
       refine s_storebs 0 U99 rfl (cells_pair (c1 rfl cells_unit) (c1 rfl (c1 rfl cells_unit)) rfl) (by rfl) (.n rfl) rfl rfl (.t rfl) (.t rfl) (by rfl) <| s_st (st_freezeb (R := rduty_option) (a := x256) 0 [18] (cells_pair (c1 rfl cells_unit) (c1 rfl (c1 rfl cells_unit)) rfl) rfl rfl ⟨rfl, trivial⟩) ?_
       refine nq <| r_seq <| rr <| mv rfl <| cmc rfl (by decide) .eql <| mv rfl ?_
       rcases Bool.eq_false_or_eq_true ((s194.1 == 0)) with hb261 | hb261
       ·have ho := cnd1 ho hb261
        refine skg (gf1 hb261) rfl rfl <| skg (gf1 hb261) rfl rfl <| skg (gf1 hb261) rfl rfl <| skg (gf1 hb261) rfl rfl <| skg (gf1 hb261) rfl rfl <| pk1 hb261 rfl .b <| mv rfl <| skg rfl rfl rfl <| skg rfl rfl rfl <| skg rfl rfl rfl <| skg rfl rfl rfl <| skg rfl rfl rfl <| pt rfl .b <| nq <| ct rfl (fun _ => ?_) (fun hq => by cases hq)
        refine r_exitq rfl ?_
        refine r_region <| arc rfl (by decide) .add <| mv rfl ?_
        cases ho
        exact s_nil (fun fr h s => And.intro rfl (Exists.intro [] (s.pick [0, 1] ⟨rfl, rfl, rfl, rfl, rfl, rfl, rfl, rfl, rfl, rfl, trivial⟩ rfl (by decide))))
       ·have ho := cnd0 ho hb261
        refine s_fa F99_1 fk_duty_option_1 (by decide) (.g rfl rfl (gf0 hb261)) rfl rfl (.t rfl) <| ldg U94 (gf0 hb261) rfl rfl rfl <| mvg (gf0 hb261) rfl rfl rfl <| s_ar (.g rfl rfl (gf0 hb261)) rfl rfl (.t rfl) (.t rfl) .and <| s_cmp (.g rfl rfl (gf0 hb261)) rfl rfl (.t rfl) (.i (by decide) (by decide)) .eql <| pk0 hb261 rfl (.t rfl) <| mv rfl ?_
        rcases Bool.eq_false_or_eq_true (((bAnd .u64 x256.2.1 ((bAnd .u64 s194.1 ((IntKind.u64.wrap (0 - s194.1)))))) == 0)) with hb263 | hb263
        ·have ho := cnd1 ho hb263
         refine skg (gf1 hb263) rfl rfl <| skg (gf1 hb263) rfl rfl <| skg (gf1 hb263) rfl rfl <| skg (gf1 hb263) rfl rfl <| skg (gf1 hb263) rfl rfl <| pk1 hb263 rfl .b <| nq <| ct rfl (fun _ => ?_) (fun hq => by cases hq)
         refine r_exitq rfl ?_
         refine r_region <| arc rfl (by decide) .add <| mv rfl ?_
         cases ho
         exact s_nil (fun fr h s => And.intro rfl (Exists.intro [] (s.pick [0, 1] ⟨rfl, rfl, rfl, rfl, rfl, rfl, rfl, rfl, rfl, rfl, trivial⟩ rfl (by decide))))
        ·have ho := cnd0 ho hb263
         refine s_fa F99_1 fk_duty_option_1 (by decide) (.g rfl rfl (gf0 hb263)) rfl rfl (.t rfl) <| ldg U94 (gf0 hb263) rfl rfl rfl <| mvg (gf0 hb263) rfl rfl rfl <| s_ar (.g rfl rfl (gf0 hb263)) rfl rfl (.t rfl) (.t rfl) .andNot <| s_cmp (.g rfl rfl (gf0 hb263)) rfl rfl (.t rfl) (.i (by decide) (by decide)) .neq <| pk0 hb263 rfl (.t rfl) <| nq <| ct rfl (fun hq265 => ?_) (fun hq265 => ?_)
         ·have ho := cnd1 ho hq265
          refine r_exitq rfl ?_
          refine r_region <| arc rfl (by decide) .add <| mv rfl ?_
          cases ho
          exact s_nil (fun fr h s => And.intro rfl (Exists.intro [] (s.pick [0, 1] ⟨rfl, rfl, rfl, rfl, rfl, rfl, rfl, rfl, rfl, rfl, trivial⟩ rfl (by decide))))
         ·have ho := cnd0 ho hq265
          refine kq rfl <| rr <| mv rfl <| mv rfl <| fa F99_1 fk_duty_option_1 (by decide) rfl <| ld U94 rfl <| ar rfl rfl .andNot <| s_lookok 0 rfl MP97 Z96 rfl (.n rfl) rfl rfl (.t rfl) (.t rfl) <| mv rfl <| ext rfl rfl <| ext rfl rfl <| s_alloc (zv := .agg [.int .i64 0, .int .i64 0]) (es := [.val (rInt .i64) (0), .val (rInt .i64) (0)]) (by kernel_rfl) (fun _ => (okint (okint okn))) rfl (.n rfl) rfl rfl ?_
          intro b266
          refine s_storebs 0 U96 rfl (c1 rfl (c1 rfl cells_unit)) (by rfl) (.n rfl) rfl rfl (.t rfl) (.t rfl) (by rfl) <| s_st (st_freezeb (R := rduty_cost) (a := ((mget s253.2 ((bAndNot .u64 s194.1 x256.2.1))).getD (0, 0, ()))) 0 [19] (c1 rfl (c1 rfl cells_unit)) rfl rfl ⟨rfl, trivial⟩) ?_
          refine sg rfl <| nq <| r_seq <| rr <| mv rfl <| s_not (.n rfl) rfl rfl (.t rfl) <| nq <| ct rfl (fun hq268 => ?_) (fun hq268 => ?_)
          ·have ho := cnd1 ho hq268
           refine r_exitq rfl ?_
           refine r_region <| arc rfl (by decide) .add <| mv rfl ?_
           cases ho
           exact s_nil (fun fr h s => And.intro rfl (Exists.intro [] (s.pick [0, 1] ⟨rfl, rfl, rfl, rfl, rfl, rfl, rfl, rfl, rfl, rfl, trivial⟩ rfl (by decide))))
          ·have ho := cnd0 ho hq268
           refine kq rfl <| rr <| fa F96_0 fk_duty_cost_0 (by decide) rfl <| ld U3 rfl <| arc rfl (by decide) .add <| fa F96_1 fk_duty_cost_1 (by decide) rfl <| ld U3 rfl <| fa F99_2 fk_duty_option_2 (by decide) rfl <| ld U3 rfl <| ar rfl rfl .add <| s_build (R := rduty_cost) B96 (.n rfl) rfl rfl rfl (.p (.t rfl) rfl (.p (.t rfl) rfl (.n rfl))) ?_
           refine s_alloc (zv := .agg [.int .i64 0, .int .i64 0]) (es := [.val (rInt .i64) (0), .val (rInt .i64) (0)]) (by kernel_rfl) (fun _ => (okint (okint okn))) rfl (.n rfl) rfl rfl ?_
           intro b269
           refine s_storebs 0 U96 rfl (c1 rfl (c1 rfl cells_unit)) (by rfl) (.n rfl) rfl rfl (.t rfl) (.t rfl) (by rfl) <| s_st (st_freezeb (R := rduty_cost) (a := (((w64 ((((mget s253.2 ((bAndNot .u64 s194.1 x256.2.1))).getD (0, 0, ()))).1 + 1)), (w64 ((((mget s253.2 ((bAndNot .u64 s194.1 x256.2.1))).getD (0, 0, ()))).2.1 + x256.2.2.1)), ()) : duty_cost)) 0 [21] (c1 rfl (c1 rfl cells_unit)) rfl rfl ⟨rfl, trivial⟩) ?_
           refine nq <| rr <| mv rfl <| mv rfl <| s_lookok 0 rfl MP97 Z96 rfl (.n rfl) rfl rfl (.t rfl) (.t rfl) <| mv rfl <| ext rfl rfl <| ext rfl rfl <| s_alloc (zv := .agg [.int .i64 0, .int .i64 0]) (es := [.val (rInt .i64) (0), .val (rInt .i64) (0)]) (by kernel_rfl) (fun _ => (okint (okint okn))) rfl (.n rfl) rfl rfl ?_
           intro b271
           refine s_storebs 0 U96 rfl (c1 rfl (c1 rfl cells_unit)) (by rfl) (.n rfl) rfl rfl (.t rfl) (.t rfl) (by rfl) <| s_st (st_freezeb (R := rduty_cost) (a := ((mget s253.2 s194.1).getD (0, 0, ()))) 0 [22] (c1 rfl (c1 rfl cells_unit)) rfl rfl ⟨rfl, trivial⟩) ?_
           refine sg rfl <| nq <| rr <| mv rfl <| s_not (.n rfl) rfl rfl (.t rfl) <| mv rfl ?_
           rcases Bool.eq_false_or_eq_true ((!((mget s253.2 s194.1).isSome))) with hb276 | hb276
           ·have ho := cnd1 ho hb276
            refine skg (gf1 hb276) rfl rfl <| skg (gf1 hb276) rfl rfl <| skg (gf1 hb276) rfl rfl <| skg (gf1 hb276) rfl rfl <| skg (gf1 hb276) rfl rfl <| pk1 hb276 rfl .b <| mv rfl <| skg rfl rfl rfl <| skg rfl rfl rfl <| skg rfl rfl rfl <| skg rfl rfl rfl <| skg rfl rfl rfl <| skg rfl rfl rfl <| sku rfl rfl <| sku rfl rfl <| sku rfl rfl <| sku rfl rfl <| sku rfl rfl <| skg rfl rfl rfl <| pt rfl .b <| nq <| ct rfl (fun _ => ?_) (fun hq => by cases hq)
            refine r_region <| mv rfl <| mv rfl <| ld U96 rfl <| s_mapset 0 MP97 (.inl rfl) rfl (.n rfl) rfl (.t rfl) (.t rfl) (.t rfl) rfl <| nq <| r_region <| arc rfl (by decide) .add <| mv rfl ?_
            cases ho
            exact s_nil (fun fr h s => And.intro rfl (Exists.intro [] (s.pick [0, 1] ⟨rfl, rfl, rfl, rfl, rfl, rfl, rfl, rfl, rfl, rfl, trivial⟩ rfl (by decide))))
           ·have ho := cnd0 ho hb276
            refine s_fa F96_0 fk_duty_cost_0 (by decide) (.g rfl rfl (gf0 hb276)) rfl rfl (.t rfl) <| ldg U3 (gf0 hb276) rfl rfl rfl <| s_fa F96_0 fk_duty_cost_0 (by decide) (.g rfl rfl (gf0 hb276)) rfl rfl (.t rfl) <| ldg U3 (gf0 hb276) rfl rfl rfl <| s_cmp (.g rfl rfl (gf0 hb276)) rfl rfl (.t rfl) (.t rfl) .lss <| pk0 hb276 rfl (.t rfl) <| mv rfl ?_
            rcases Bool.eq_false_or_eq_true ((decide (((((w64 ((((mget s253.2 ((bAndNot .u64 s194.1 x256.2.1))).getD (0, 0, ()))).1 + 1)), (w64 ((((mget s253.2 ((bAndNot .u64 s194.1 x256.2.1))).getD (0, 0, ()))).2.1 + x256.2.2.1)), ()) : duty_cost)).1 < (((mget s253.2 s194.1).getD (0, 0, ()))).1))) with hb278 | hb278
            ·have ho := cnd1 ho hb278
             refine skg (gf1 hb278) rfl rfl <| skg (gf1 hb278) rfl rfl <| skg (gf1 hb278) rfl rfl <| skg (gf1 hb278) rfl rfl <| skg (gf1 hb278) rfl rfl <| skg (gf1 hb278) rfl rfl <| sku rfl rfl <| sku rfl rfl <| sku rfl rfl <| sku rfl rfl <| sku rfl rfl <| skg (gf1 hb278) rfl rfl <| pk1 hb278 rfl .b <| nq <| ct rfl (fun _ => ?_) (fun hq => by cases hq)
             refine r_region <| mv rfl <| mv rfl <| ld U96 rfl <| s_mapset 0 MP97 (.inl rfl) rfl (.n rfl) rfl (.t rfl) (.t rfl) (.t rfl) rfl <| nq <| r_region <| arc rfl (by decide) .add <| mv rfl ?_
             cases ho
             exact s_nil (fun fr h s => And.intro rfl (Exists.intro [] (s.pick [0, 1] ⟨rfl, rfl, rfl, rfl, rfl, rfl, rfl, rfl, rfl, rfl, trivial⟩ rfl (by decide))))
            ·have ho := cnd0 ho hb278
             refine s_fa F96_0 fk_duty_cost_0 (by decide) (.g rfl rfl (gf0 hb278)) rfl rfl (.t rfl) <| ldg U3 (gf0 hb278) rfl rfl rfl <| s_fa F96_0 fk_duty_cost_0 (by decide) (.g rfl rfl (gf0 hb278)) rfl rfl (.t rfl) <| ldg U3 (gf0 hb278) rfl rfl rfl <| s_cmp (.g rfl rfl (gf0 hb278)) rfl rfl (.t rfl) (.t rfl) .eql <| mvg (gf0 hb278) rfl rfl rfl ?_
             rcases Bool.eq_false_or_eq_true ((((((w64 ((((mget s253.2 ((bAndNot .u64 s194.1 x256.2.1))).getD (0, 0, ()))).1 + 1)), (w64 ((((mget s253.2 ((bAndNot .u64 s194.1 x256.2.1))).getD (0, 0, ()))).2.1 + x256.2.2.1)), ()) : duty_cost)).1 == (((mget s253.2 s194.1).getD (0, 0, ()))).1)) with hb280 | hb280
             ·have ho := cnd1 ho hb280
              refine s_fa F96_1 fk_duty_cost_1 (by decide) (.g rfl rfl (gt1 hb280)) rfl rfl (.t rfl) <| ldg U3 (gt1 hb280) rfl rfl rfl <| s_fa F96_1 fk_duty_cost_1 (by decide) (.g rfl rfl (gt1 hb280)) rfl rfl (.t rfl) <| ldg U3 (gt1 hb280) rfl rfl rfl <| s_cmp (.g rfl rfl (gt1 hb280)) rfl rfl (.t rfl) (.t rfl) .lss <| s_pk1 hb280 (.g rfl rfl (gf0 hb278)) rfl rfl (.t rfl) (.t rfl) <| pk0 hb278 rfl (.t rfl) <| nq <| ct rfl (fun hq281 => ?_) (fun hq281 => ?_)
              ·have ho := cnd1 ho hq281
               refine r_region <| mv rfl <| mv rfl <| ld U96 rfl <| s_mapset 0 MP97 (.inl rfl) rfl (.n rfl) rfl (.t rfl) (.t rfl) (.t rfl) rfl <| nq <| r_region <| arc rfl (by decide) .add <| mv rfl ?_
               cases ho
               exact s_nil (fun fr h s => And.intro rfl (Exists.intro [] (s.pick [0, 1] ⟨rfl, rfl, rfl, rfl, rfl, rfl, rfl, rfl, rfl, rfl, trivial⟩ rfl (by decide))))
              ·have ho := cnd0 ho hq281
               refine kq rfl <| r_region <| arc rfl (by decide) .add <| mv rfl ?_
               cases ho
               exact s_nil (fun fr h s => And.intro rfl (Exists.intro [] (s.pick [0, 1] ⟨rfl, rfl, rfl, rfl, rfl, rfl, rfl, rfl, rfl, rfl, trivial⟩ rfl (by decide))))
             ·have ho := cnd0 ho hb280
              refine skg (gt0 hb280) rfl rfl <| skg (gt0 hb280) rfl rfl <| skg (gt0 hb280) rfl rfl <| skg (gt0 hb280) rfl rfl <| skg (gt0 hb280) rfl rfl <| s_pk0 hb280 (.g rfl rfl (gf0 hb278)) rfl rfl (.t rfl) .b <| pk0 hb278 rfl (.t rfl) <| nq <| ct rfl (fun hq => by cases hq) (fun _ => ?_)
              refine kq rfl <| r_region <| arc rfl (by decide) .add <| mv rfl ?_
              cases ho
              exact s_nil (fun fr h s => And.intro rfl (Exists.intro [] (s.pick [0, 1] ⟨rfl, rfl, rfl, rfl, rfl, rfl, rfl, rfl, rfl, rfl, trivial⟩ rfl (by decide))))
      ·have ho := cnd0 ho hq255
       cases ho
       exact r_exit (fun fr h s => And.intro rfl (Exists.intro [] (s.pick [0, 1] ⟨rfl, rfl, rfl, rfl, rfl, trivial⟩ rfl (by decide))))
     ·intro g285
      show ∀ fr h, St _ [(12, .raw v9), (13, .val (rInt .u64) ((IntKind.u64.wrap (x11 - 1)))), (14, .raw (.map b12)), (57, .val (rInt .u64) ((IntKind.u64.wrap ((IntKind.u64.wrap (x11 - 1)) + 1)))), (58, .val (rInt .u64) (s194.1))] [(.map b12, .mp rduty_cost .u64 (t283)), (v9, .row rduty_option (y8))] fr h → _
      show SRun ..
      refine r_region <| arc rfl (by decide) .add <| mv rfl ?_
      cases ho
      exact s_nil (fun fr h s => And.intro rfl (Exists.intro [] (s.pick [0, 1] ⟨rfl, rfl, rfl, rfl, rfl, trivial⟩ rfl (by decide))))
    ·have ho := cnd0 ho hq196
     cases ho
     exact r_exit (fun fr h s => And.intro rfl (Exists.intro [] (s.pick [0, 1] ⟨rfl, rfl, rfl, trivial⟩ rfl (by decide))))
   ·intro g288
    show ∀ fr h, St _ [(12, .raw v9), (13, .val (rInt .u64) ((IntKind.u64.wrap (x11 - 1)))), (14, .raw (.map b12))] [(.map b12, .mp rduty_cost .u64 (t286)), (v9, .row rduty_option (y8))] fr h → _
    show SRun ..
    refine rr <| mv rfl <| mv rfl <| s_lookok 0 rfl MP97 Z96 rfl (.n rfl) rfl rfl (.t rfl) (.t rfl) <| mv rfl <| ext rfl rfl <| ext rfl rfl <| s_alloc (zv := .agg [.int .i64 0, .int .i64 0]) (es := [.val (rInt .i64) (0), .val (rInt .i64) (0)]) (by kernel_rfl) (fun _ => (okint (okint okn))) rfl (.n rfl) rfl rfl ?_
    intro b289
    refine s_storebs 0 U96 rfl (c1 rfl (c1 rfl cells_unit)) (by rfl) (.n rfl) rfl rfl (.t rfl) (.t rfl) (by rfl) <| sg rfl <| nq <| r_seq <| rr <| mv rfl <| s_not (.n rfl) rfl rfl (.t rfl) <| nq <| ct rfl (fun hq291 => ?_) (fun hq291 => ?_)
    ·have ho := cnd1 ho hq291
     refine rr <| s_st (st_nilrow rDuty) <| s_assign (.n rfl) rfl rfl .nilr <| sgc (by decide) <| nq ?_
     cases ho
     exact r_ret (ret_of (.inr rfl) (.r 0 rfl rfl (.v rfl .n)) (by decide))
    ·have ho := cnd0 ho hq291
     refine kq rfl <| rr <| s_st (st_nilrow rDuty) <| s_assign (.n rfl) rfl rfl .nilr <| nq <| rr <| mv rfl <| sg rfl <| nq <| r_seq ?_
     refine r_labelq rfl ?_
     refine r_seq <| r_block ?_
     obtain ⟨t509, ht509, ho⟩ := bnd ho
     refine r_loop (σ := ((List Duty) × Int × Int × Int)) (τ := ((List Duty))) (G := List AVal) (fun s g => ([(12, .raw v9), (14, .raw (.map b12)), (24, .raw (.ptr b289 0)), (26, .raw ((gh g 0))), (27, .val (rInt .u64) (s.2.1))], [(.ptr b289 0, .box [.val (rInt .i64) (s.2.2.1), .val (rInt .i64) (s.2.2.2)]), (.map b12, .mp rduty_cost .u64 (t286)), (v9, .row rduty_option (y8)), ((gh g 0), .row rDuty (s.1))])) (fun b => (.exit 5, fun g => ([(26, .raw ((gh g 0)))], [((gh g 0), .row rDuty (b))]))) _ [.nilslice] ht509 (fun fr h s => s.pick [1, 2, 3, 0] ⟨rfl, rfl, rfl, rfl, rfl, trivial⟩ rfl (by decide)) ?_ ?_ ?_
     ·intro t
      exact nx
     ·clear ho
      intro s433 g434 r510 ho
      refine r_seq <| rr <| mv rfl <| cmc rfl (by decide) .neq <| nq <| ct rfl (fun hq438 => ?_) (fun hq438 => ?_)
      ·have ho := cnd1 ho hq438
       refine kq rfl <| r_block <| r_seq <| rr <| mv rfl <| s_leno 2 S92 (.n rfl) rfl rfl rfl rfl rfl (.t rfl) rfl <| mvc (by decide) <| nq <| r_block ?_
       obtain ⟨t498, ht498, ho⟩ := bnd ho
       refine r_loop (σ := ((List Duty) × Int × Int × Int × Int)) (τ := ((List Duty) × Int × Bool × duty_cost × Int × Int × Int × Int × Int × Int × duty_cost × Bool × Int × Int) ⊕ ((List Duty) × Int × Int)) (G := List AVal) (fun s g => ([(12, .raw v9), (14, .raw (.map b12)), (24, .raw (.ptr b289 0)), (26, .raw ((gh g 0))), (27, .val (rInt .u64) (s.2.1)), (152, .raw v9), (153, .val (rInt .i64) ((lenI y8))), (154, .val (rInt .i64) (s.2.2.1))], [(.ptr b289 0, .box [.val (rInt .i64) (s.2.2.2.1), .val (rInt .i64) (s.2.2.2.2)]), (.map b12, .mp rduty_cost .u64 (t286)), (v9, .row rduty_option (y8)), ((gh g 0), .row rDuty (s.1))])) (altX (fun b => (.exit 6, fun g => ([(12, .raw v9), (14, .raw (.map b12)), (24, .raw (.ptr b289 0)), (26, .raw ((gh g 0))), (27, .val (rInt .u64) (b.2.1)), (173, .val rBool (b.2.2.1)), (176, .val rduty_cost (b.2.2.2.1)), (178, .val (rInt .i64) (b.2.2.2.2.1)), (179, .val (rInt .i64) (b.2.2.2.2.2.1)), (181, .val (rInt .i64) (b.2.2.2.2.2.2.1)), (182, .val (rPtr (rInt .i64)) (b.2.2.2.2.2.2.2.1)), (183, .val (rInt .i64) (b.2.2.2.2.2.2.2.2.1)), (184, .val (rInt .i64) (b.2.2.2.2.2.2.2.2.2.1)), (185, .val rduty_cost (b.2.2.2.2.2.2.2.2.2.2.1)), (186, .val rBool (b.2.2.2.2.2.2.2.2.2.2.2.1))], [(.ptr b289 0, .box [.val (rInt .i64) (b.2.2.2.2.2.2.2.2.2.2.2.2.1), .val (rInt .i64) (b.2.2.2.2.2.2.2.2.2.2.2.2.2)]), (.map b12, .mp rduty_cost .u64 (t286)), (v9, .row rduty_option (y8)), ((gh g 0), .row rDuty (b.1))]))) (fun b => (.exit 7, fun g => ([(26, .raw ((gh g 0)))], [((gh g 0), .row rDuty (b.1))])))) _ [(gh g434 0)] ht498 (fun fr h s => s.pick [0, 1, 2, 3] ⟨rfl, rfl, rfl, rfl, rfl, rfl, rfl, rfl, trivial⟩ rfl (by decide)) ?_ ?_ ?_
       ·intro t
        rcases t with t | t
        ·exact nx
        ·exact nx
       ·clear ho
        intro s472 g473 r499 ho
        refine rr <| cm rfl rfl .lss <| nq <| r_seq <| ct rfl (fun hq478 => ?_) (fun hq478 => ?_)
        ·have ho := cnd1 ho hq478
         refine kq rfl <| r_seq <| r_block <| rr ?_
         obtain ⟨x479, hx479, ho⟩ := bnd ho
         refine s_idxo 2 S92 hx479 (.n rfl) rfl rfl (.t rfl) rfl (.t rfl) <| s_loado 2 (fun _ h => by cases h <;> rfl) U99 FOk.self (idx_inv hx479).2.2.2 (.n rfl) rfl rfl (.t rfl) rfl <| s_alloc (zv := .agg [.nilslice, .int .u64 0, .int .i64 0]) (es := [.val (rSlice rDutyPiece) ([]), .val (rInt .u64) (0), .val (rInt .i64) (0)]) (by kernel_rfl) (fun _ => (oknil (okint (okint okn)))) rfl (.n rfl) rfl rfl ?_
         intro b480
         refine s_storebs 0 U99 rfl (cells_pair (c1 rfl cells_unit) (c1 rfl (c1 rfl cells_unit)) rfl) (by rfl) (.n rfl) rfl rfl (.t rfl) (.t rfl) (by rfl) <| s_st (st_freezeb (R := rduty_option) (a := x479) 0 [29] (cells_pair (c1 rfl cells_unit) (c1 rfl (c1 rfl cells_unit)) rfl) rfl rfl ⟨rfl, trivial⟩) ?_
         refine nq <| rr <| mv rfl <| mv rfl <| fa F99_1 fk_duty_option_1 (by decide) rfl <| ld U94 rfl <| ar rfl rfl .andNot <| s_lookok 1 rfl MP97 Z96 rfl (.n rfl) rfl rfl (.t rfl) (.t rfl) <| mv rfl <| ext rfl rfl <| ext rfl rfl <| s_alloc (zv := .agg [.int .i64 0, .int .i64 0]) (es := [.val (rInt .i64) (0), .val (rInt .i64) (0)]) (by kernel_rfl) (fun _ => (okint (okint okn))) rfl (.n rfl) rfl rfl ?_
         intro b482
         refine s_storebs 0 U96 rfl (c1 rfl (c1 rfl cells_unit)) (by rfl) (.n rfl) rfl rfl (.t rfl) (.t rfl) (by rfl) <| s_st (st_freezeb (R := rduty_cost) (a := ((mget t286 ((bAndNot .u64 s472.2.1 x479.2.1))).getD (0, 0, ()))) 0 [30] (c1 rfl (c1 rfl cells_unit)) rfl rfl ⟨rfl, trivial⟩) ?_
         refine sg rfl <| nq <| rr <| fa F99_1 fk_duty_option_1 (by decide) rfl <| ld U94 rfl <| mv rfl <| ar rfl rfl .andNot <| cmc rfl (by decide) .eql <| mv rfl ?_
         rcases Bool.eq_false_or_eq_true (((bAndNot .u64 x479.2.1 s472.2.1) == 0)) with hb486 | hb486
         ·have ho := cnd1 ho hb486
          refine mvg (gt1 hb486) rfl rfl rfl <| pk1 hb486 rfl (.t rfl) <| mv rfl ?_
          rcases Bool.eq_false_or_eq_true (((mget t286 ((bAndNot .u64 s472.2.1 x479.2.1))).isSome)) with hb487 | hb487
          ·have ho := cnd1 ho hb487
           refine ldg U96 (gt1 hb487) rfl rfl rfl <| s_faraw F96_0 (by decide) (.g rfl rfl (gt1 hb487)) rfl rfl (.t rfl) <| s_loadb 0 (fun _ h => by cases h <;> rfl) (U3).agg rfl (.g rfl rfl (gt1 hb487)) rfl rfl (.t rfl) rfl <| s_ar (.g rfl rfl (gt1 hb487)) rfl rfl (.t rfl) (.i (by decide) (by decide)) .sub <| s_faraw F96_1 (by decide) (.g rfl rfl (gt1 hb487)) rfl rfl (.t rfl) <| s_loadb 0 (fun _ h => by cases h <;> rfl) (U3).agg rfl (.g rfl rfl (gt1 hb487)) rfl rfl (.t rfl) rfl ?_
           refine s_fa F99_2 fk_duty_option_2 (by decide) (.g rfl rfl (gt1 hb487)) rfl rfl (.t rfl) <| ldg U3 (gt1 hb487) rfl rfl rfl <| s_ar (.g rfl rfl (gt1 hb487)) rfl rfl (.t rfl) (.t rfl) .sub <| s_build (R := rduty_cost) B96 (.g rfl rfl (gt1 hb487)) rfl rfl rfl (.p (.t rfl) rfl (.p (.t rfl) rfl (.n rfl))) ?_
           refine s_seq E96 rfl (.g rfl rfl (gt1 hb487)) rfl rfl (.t rfl) (.t rfl) <| pk1 hb487 rfl (.t rfl) <| nq <| ct rfl (fun hq488 => ?_) (fun hq488 => ?_)
           ·have ho := cnd1 ho hq488
            refine rr <| mv rfl <| fa F99_0 fk_duty_option_0 (by decide) rfl <| ld U62 rfl <| s_bs (R := rDuty) S44 Y62 (.n rfl) rfl rfl (.c (.t rfl) .n) rfl (by decide) ?_
            obtain ⟨x489, hx489, ho⟩ := bnd ho
            refine s_app 3 S44 Y62 hx489 (.n rfl) rfl rfl rfl rfl rfl (.t rfl) rfl (.t rfl) rfl ?_
            intro v490
            refine sg rfl <| nq <| r_seq ?_
            refine r_draw [] (by kernel_rfl) ?_
            refine mv rfl <| fa F99_1 fk_duty_option_1 (by decide) rfl <| ld U94 rfl <| ar rfl rfl .andNot <| ld U96 rfl <| sg rfl <| s_storebs 1 U96 rfl (c1 rfl (c1 rfl cells_unit)) (by rfl) (.n rfl) rfl rfl (.t rfl) (.t rfl) (by rfl) <| nq ?_
            cases ho
            exact r_exit (fun fr h s => And.intro rfl (Exists.intro [v490] (s.pick [1, 2, 3, 0] ⟨rfl, rfl, rfl, rfl, rfl, rfl, rfl, rfl, rfl, rfl, rfl, rfl, rfl, rfl, rfl, trivial⟩ rfl (by decide))))
           ·have ho := cnd0 ho hq488
            refine kq rfl <| r_region <| arc rfl (by decide) .add <| mv rfl ?_
            cases ho
            exact s_nil (fun fr h s => And.intro rfl (Exists.intro [(gh g473 0)] (s.pick [0, 1, 2, 3] ⟨rfl, rfl, rfl, rfl, rfl, rfl, rfl, rfl, trivial⟩ rfl (by decide))))
          ·have ho := cnd0 ho hb487
           refine skg (gt0 hb487) rfl rfl <| skg (gt0 hb487) rfl rfl <| skg (gt0 hb487) rfl rfl <| skg (gt0 hb487) rfl rfl <| skg (gt0 hb487) rfl rfl <| skg (gt0 hb487) rfl rfl <| skg (gt0 hb487) rfl rfl <| skg (gt0 hb487) rfl rfl <| skg (gt0 hb487) rfl rfl <| skg (gt0 hb487) rfl rfl <| skg (gt0 hb487) rfl rfl <| pk0 hb487 rfl .b <| nq <| ct rfl (fun hq => by cases hq) (fun _ => ?_)
           refine kq rfl <| r_region <| arc rfl (by decide) .add <| mv rfl ?_
           cases ho
           exact s_nil (fun fr h s => And.intro rfl (Exists.intro [(gh g473 0)] (s.pick [0, 1, 2, 3] ⟨rfl, rfl, rfl, rfl, rfl, rfl, rfl, rfl, trivial⟩ rfl (by decide))))
         ·have ho := cnd0 ho hb486
          refine skg (gt0 hb486) rfl rfl <| pk0 hb486 rfl .b <| mv rfl <| skg rfl rfl rfl <| skg rfl rfl rfl <| skg rfl rfl rfl <| skg rfl rfl rfl <| skg rfl rfl rfl <| skg rfl rfl rfl <| skg rfl rfl rfl <| skg rfl rfl rfl <| skg rfl rfl rfl <| skg rfl rfl rfl <| skg rfl rfl rfl <| s_pick0 (.n rfl) rfl rfl (.t rfl) .b <| nq <| ct rfl (fun hq => by cases hq) (fun _ => ?_)
          refine kq rfl <| r_region <| arc rfl (by decide) .add <| mv rfl ?_
          cases ho
          exact s_nil (fun fr h s => And.intro rfl (Exists.intro [(gh g473 0)] (s.pick [0, 1, 2, 3] ⟨rfl, rfl, rfl, rfl, rfl, rfl, rfl, rfl, trivial⟩ rfl (by decide))))
        ·have ho := cnd0 ho hq478
         cases ho
         exact r_exit (fun fr h s => And.intro rfl (Exists.intro [(gh g473 0)] (s.pick [3] ⟨rfl, trivial⟩ rfl (by decide))))
       ·clear ht498
        rcases t498 with b500 | b501
        ·have ho := alt_l ho
         intro g502
         show ∀ fr h, St _ [(12, .raw v9), (14, .raw (.map b12)), (24, .raw (.ptr b289 0)), (26, .raw ((gh g502 0))), (27, .val (rInt .u64) (b500.2.1)), (173, .val rBool (b500.2.2.1)), (176, .val rduty_cost (b500.2.2.2.1)), (178, .val (rInt .i64) (b500.2.2.2.2.1)), (179, .val (rInt .i64) (b500.2.2.2.2.2.1)), (181, .val (rInt .i64) (b500.2.2.2.2.2.2.1)), (182, .val (rPtr (rInt .i64)) (b500.2.2.2.2.2.2.2.1)), (183, .val (rInt .i64) (b500.2.2.2.2.2.2.2.2.1)), (184, .val (rInt .i64) (b500.2.2.2.2.2.2.2.2.2.1)), (185, .val rduty_cost (b500.2.2.2.2.2.2.2.2.2.2.1)), (186, .val rBool (b500.2.2.2.2.2.2.2.2.2.2.2.1))] [(.ptr b289 0, .box [.val (rInt .i64) (b500.2.2.2.2.2.2.2.2.2.2.2.2.1), .val (rInt .i64) (b500.2.2.2.2.2.2.2.2.2.2.2.2.2)]), (.map b12, .mp rduty_cost .u64 (t286)), (v9, .row rduty_option (y8)), ((gh g502 0), .row rDuty (b500.1))] fr h → _
         cases ho
         exact id (fun fr h s => And.intro rfl (Exists.intro [(gh g502 0)] (s.pick [0, 1, 2, 3] ⟨rfl, rfl, rfl, rfl, rfl, trivial⟩ rfl (by decide))))
        ·have ho := alt_r ho
         intro g505
         show ∀ fr h, St _ [(26, .raw ((gh g505 0)))] [((gh g505 0), .row rDuty (b501.1))] fr h → _
         show SRun ..
         cases ho
         exact r_exit (fun fr h s => And.intro rfl (Exists.intro [(gh g505 0)] (s.pick [0] ⟨rfl, trivial⟩ rfl (by decide))))
      ·have ho := cnd0 ho hq438
       cases ho
       exact r_exit (fun fr h s => And.intro rfl (Exists.intro [(gh g434 0)] (s.pick [3] ⟨rfl, trivial⟩ rfl (by decide))))
     ·intro g511
      show ∀ fr h, St _ [(26, .raw ((gh g511 0)))] [((gh g511 0), .row rDuty (t509))] fr h → _
      show SRun ..
      refine rr <| mv rfl <| sg rfl <| sgc (by decide) <| nq ?_
      cases ho
      exact r_ret (ret_of (.inr rfl) (.r 0 rfl rfl (.v rfl .n)) (by decide))
theorem g_ref08_Pieces_ok {a_0 : Duty} {b_1 : Duty} {out : (Bool)} (ho : g_ref08_Pieces a_0 b_1 = some out) : Fun ktab 49 [.val rDuty a_0, .val rDuty b_1] [.val rBool (out)] := by
 refine fun_of (F := Try.f49) (by rfl) (by rfl) (by rfl) (fun C hC => ?_)
 delta g_ref08_Pieces at ho
 refine rr <| bx rfl <| bx rfl <| sgb <| nq <| r_seq <| rr <| fa F62_0 fk_Duty_0 (by decide) rfl <| ld U60 rfl <| ln S60 rfl rfl rfl (.t rfl) <| fa F62_0 fk_Duty_0 (by decide) rfl <| ld U60 rfl <| ln S60 rfl rfl rfl (.t rfl) <| cm rfl rfl .neq <| nq <| ct rfl (fun hq1 => ?_) (fun hq1 => ?_)
 ·have ho := cnd1 ho hq1
  refine rr <| sgb <| nq ?_
  cases ho
  exact r_ret (ret_of (.inr rfl) (.v rfl .n) (by decide))
 ·have ho := cnd0 ho hq1
  refine kq rfl <| r_seq <| rr <| sgc (by decide) <| nq <| r_block ?_
  obtain ⟨t12, ht12, ho⟩ := bnd ho
  refine r_loop (σ := (Int)) (τ := Unit ⊕ (Bool)) (G := List AVal) (fun s g => ([(2, .val (rPtr rDuty) (a_0)), (3, .val (rPtr rDuty) (b_1)), (5, .val (rInt .i64) (s))], [])) (altX (fun b => (.exit 0, fun g => ([], []))) (fun b => (.ret, fun g => ([(4, .val rBool (b))], [])))) _ [] ht12 (fun fr h s => s.pick [] ⟨rfl, rfl, rfl, trivial⟩ rfl (by decide)) ?_ ?_ ?_
  ·intro t
   rcases t with t | t
   ·exact nx
   ·exact nr
  ·clear ho
   intro s6 g7 r13 ho
   refine r_seq <| rr <| mv rfl <| fa F62_0 fk_Duty_0 (by decide) rfl <| ld U60 rfl <| ln S60 rfl rfl rfl (.t rfl) <| cm rfl rfl .lss <| nq <| ct rfl (fun hq8 => ?_) (fun hq8 => ?_)
   ·have ho := cnd1 ho hq8
    refine kq rfl <| r_seq <| r_block <| r_seq ?_
    refine r_draw [] (by kernel_rfl) ?_
    refine fa F62_0 fk_Duty_0 (by decide) rfl <| ld U60 rfl <| mv rfl ?_
    obtain ⟨x9, hx9, ho⟩ := bnd ho
    refine ix S60 hx9 rfl rfl <| ld U78 rfl <| fa F62_0 fk_Duty_0 (by decide) rfl <| ld U60 rfl <| mv rfl ?_
    obtain ⟨x10, hx10, ho⟩ := bnd ho
    refine ix S60 hx10 rfl rfl <| ld U78 rfl <| s_sne E78 rfl (.n rfl) rfl rfl (.t rfl) (.t rfl) <| nq <| ct rfl (fun hq11 => ?_) (fun hq11 => ?_)
    ·have ho := cnd1 ho hq11
     refine rr <| sgb <| nq ?_
     cases ho
     exact r_ret fun _ _ s => fz [] s ⟨rfl, trivial⟩ rfl
    ·have ho := cnd0 ho hq11
     refine kq rfl <| r_region <| mv rfl <| arc rfl (by decide) .add <| sg rfl ?_
     cases ho
     exact s_nil fun _ _ s => fz [] s ⟨rfl, rfl, rfl, trivial⟩ rfl
   ·have ho := cnd0 ho hq8
    cases ho
    exact r_exit fun _ _ s => fz [] s trivial rfl
  ·clear ht12
   rcases t12 with b14 | b15
   ·have ho := alt_l ho
    intro g16
    show ∀ fr h, St _ [] [] fr h → _
    show SRun ..
    refine rr <| sgb <| nq ?_
    cases ho
    exact r_ret (ret_of (.inr rfl) (.v rfl .n) (by decide))
   ·have ho := alt_r ho
    intro g17
    show ∀ fr h, St _ [(4, .val rBool (b15))] [] fr h → _
    cases ho
    exact id (ret_of (.inr rfl) (.v rfl .n) (by decide))
theorem g_ref08_Plans_ok {a_0 : (List Duty)} {b_1 : (List Duty)} {out : (Bool)} (ho : g_ref08_Plans a_0 b_1 = some out) : Fun ktab 26 [.val (rSlice rDuty) a_0, .val (rSlice rDuty) b_1] [.val rBool (out)] := by
 refine fun_of (F := Try.f26) (by rfl) (by rfl) (by rfl) (fun C hC => ?_)
 delta g_ref08_Plans at ho
 refine rr <| sgb <| nq <| r_seq <| rr <| mv rfl <| ln S44 rfl rfl rfl (.t rfl) <| mv rfl <| ln S44 rfl rfl rfl (.t rfl) <| cm rfl rfl .neq <| nq <| ct rfl (fun hq1 => ?_) (fun hq1 => ?_)
 ·have ho := cnd1 ho hq1
  refine rr <| sgb <| nq ?_
  cases ho
  exact r_ret (ret_of (.inr rfl) (.v rfl .n) (by decide))
 ·have ho := cnd0 ho hq1
  refine kq rfl <| r_seq <| rr <| sgc (by decide) <| nq <| r_block ?_
  obtain ⟨t14, ht14, ho⟩ := bnd ho
  refine r_loop (σ := (Int)) (τ := Unit ⊕ (Bool)) (G := List AVal) (fun s g => ([(0, .val (rSlice rDuty) (a_0)), (1, .val (rSlice rDuty) (b_1)), (5, .val (rInt .i64) (s))], [])) (altX (fun b => (.exit 0, fun g => ([], []))) (fun b => (.ret, fun g => ([(4, .val rBool (b))], [])))) _ [] ht14 (fun fr h s => s.pick [] ⟨rfl, rfl, rfl, trivial⟩ rfl (by decide)) ?_ ?_ ?_
  ·intro t
   rcases t with t | t
   ·exact nx
   ·exact nr
  ·clear ho
   intro s7 g8 r15 ho
   refine r_seq <| rr <| mv rfl <| mv rfl <| ln S44 rfl rfl rfl (.t rfl) <| cm rfl rfl .lss <| nq <| ct rfl (fun hq9 => ?_) (fun hq9 => ?_)
   ·have ho := cnd1 ho hq9
    refine kq rfl <| r_seq <| r_block <| r_seq ?_
    refine r_draw [] (by kernel_rfl) ?_
    refine mv rfl <| mv rfl ?_
    obtain ⟨x10, hx10, ho⟩ := bnd ho
    refine ix S44 hx10 rfl rfl <| ld U62 rfl <| mv rfl <| mv rfl ?_
    obtain ⟨x11, hx11, ho⟩ := bnd ho
    refine ix S44 hx11 rfl rfl <| ld U62 rfl ?_
    obtain ⟨y12, hy12, ho⟩ := bnd ho
    refine s_calll (g_ref08_Pieces_ok hy12) (.v flat_bool .n) rfl (.n rfl) rfl rfl rfl .f (.c (.o (.t rfl)) (.c (.o (.t rfl)) .n)) ?_
    show SOps ..
    refine s_not (.n rfl) rfl rfl (.t rfl) <| nq <| ct rfl (fun hq13 => ?_) (fun hq13 => ?_)
    ·have ho := cnd1 ho hq13
     refine rr <| sgb <| nq ?_
     cases ho
     exact r_ret fun _ _ s => fz [] s ⟨rfl, trivial⟩ rfl
    ·have ho := cnd0 ho hq13
     refine kq rfl <| r_region <| mv rfl <| arc rfl (by decide) .add <| sg rfl ?_
     cases ho
     exact s_nil fun _ _ s => fz [] s ⟨rfl, rfl, rfl, trivial⟩ rfl
   ·have ho := cnd0 ho hq9
    cases ho
    exact r_exit fun _ _ s => fz [] s trivial rfl
  ·clear ht14
   rcases t14 with b16 | b17
   ·have ho := alt_l ho
    intro g18
    show ∀ fr h, St _ [] [] fr h → _
    show SRun ..
    refine rr <| sgb <| nq ?_
    cases ho
    exact r_ret (ret_of (.inr rfl) (.v rfl .n) (by decide))
   ·have ho := alt_r ho
    intro g19
    show ∀ fr h, St _ [(4, .val rBool (b17))] [] fr h → _
    cases ho
    exact id (ret_of (.inr rfl) (.v rfl .n) (by decide))
theorem g_duty_Bare_ok {p_0 : (List Task)} {p_1 : Yard} {p_2 : (List (List Int))} {p_3 : WorkRules} {out : ((List Int) × Int)} (ho : g_duty_Bare p_0 p_1 p_2 p_3 = some out) : Fun ktab 27 [.val (rSlice rTask) p_0, .val rYard p_1, .val (rSlice (rSlice (rInt .i64))) p_2, .val rWorkRules p_3] [.row (rInt .i64) (out.1), .val (rInt .i64) (out.2)] := by
 refine fun_of (F := Try.f27) (by rfl) (by rfl) (by rfl) (fun C hC => ?_)
 delta g_duty_Bare at ho
 refine rr <| bx rfl <| bx rfl <| s_st (st_nilrow (rInt .i64)) <| s_assign (.n rfl) rfl rfl .nilr <| sgc (by decide) <| nq <| rr <| mv rfl <| ld U26 rfl <| mv rfl <| ld U42 rfl ?_
 obtain ⟨y2, hy2, ho⟩ := bnd ho
 refine s_call (pre := []) (post := []) (vs := []) (g_duty_crewed_ok hy2) rfl (.n rfl) rfl rfl rfl .f (.c (.t rfl) (.c (.t rfl) (.c (.t rfl) (.c (.t rfl) .n)))) ?_
 show SOps ..
 refine mv rfl <| ext rfl rfl <| ext rfl rfl <| sg rfl <| sg rfl <| nq <| r_seq <| rr <| mv rfl <| s_not (.n rfl) rfl rfl (.t rfl) <| nq <| ct rfl (fun hq3 => ?_) (fun hq3 => ?_)
 ·have ho := cnd1 ho hq3
  refine rr <| s_st (st_nilrow (rInt .i64)) <| s_assign (.n rfl) rfl rfl .nilr <| sgc (by decide) <| nq ?_
  cases ho
  exact r_ret (ret_of (.inr rfl) (.r 0 rfl rfl (.v rfl .n)) (by decide))
 ·have ho := cnd0 ho hq3
  refine kq rfl <| rr <| mv rfl <| ln S22 rfl rfl rfl (.t rfl) ?_
  obtain ⟨x5, hx5, ho⟩ := bnd ho
  refine s_mk S24 Y4 Z4 hx5 (.n rfl) rfl rfl (.t rfl) (.t rfl) ?_
  intro v6
  refine sg rfl <| nq <| r_seq <| rr <| mv rfl ?_
  obtain ⟨p8, hp8, ho⟩ := bnd ho
  refine s_st (st_someptr (n := 33) hp8 rfl) ?_
  obtain ⟨y9, hy9, ho⟩ := bnd ho
  refine s_calll (g_duty_crew_pieces_ok hy9) (.r (flat_pair flat_int (flat_pair flat_int (flat_pair flat_int flat_unit))) .n) rfl (.n rfl) rfl rfl rfl .f (.c (.o (.t rfl)) .n) ?_
  intro v10
  show SOps ..
  refine s_leno 0 S60 (.n rfl) rfl rfl rfl rfl rfl (.t rfl) rfl <| mvc (by decide) <| nq <| r_block ?_
  obtain ⟨t89, ht89, ho⟩ := bnd ho
  refine r_loop (σ := (Int × (List Bool))) (τ := ((List Bool))) (G := List AVal) (fun s g => ([(2, .val (rSlice (rSlice (rInt .i64))) (p_2)), (10, .val (rPtrN rduty_crew) (y2.1)), (12, .raw v6), (34, .raw v10), (35, .val (rInt .i64) ((lenI y9))), (36, .val (rInt .i64) (s.1))], [(v10, .row rDutyPiece (y9)), (v6, .row rBool (s.2))])) (fun b => (.exit 0, fun g => ([(12, .raw v6)], [(v6, .row rBool (b))]))) _ [] ht89 (fun fr h s => s.pick [0, 1] ⟨rfl, rfl, rfl, rfl, rfl, rfl, trivial⟩ rfl (by decide)) ?_ ?_ ?_
  ·intro t
   exact nx
  ·clear ho
   intro s62 g63 r90 ho
   refine rr <| cm rfl rfl .lss <| nq <| r_seq <| ct rfl (fun hq64 => ?_) (fun hq64 => ?_)
   ·have ho := cnd1 ho hq64
    refine kq rfl <| r_seq <| r_block <| rr ?_
    obtain ⟨x65, hx65, ho⟩ := bnd ho
    refine s_idxo 0 S60 hx65 (.n rfl) rfl rfl (.t rfl) rfl (.t rfl) <| s_loado 0 (fun _ h => by cases h <;> rfl) U78 FOk.self (idx_inv hx65).2.2.2 (.n rfl) rfl rfl (.t rfl) rfl <| s_alloc (zv := .agg [.int .i64 0, .int .i64 0, .int .i64 0]) (es := [.val (rInt .i64) (0), .val (rInt .i64) (0), .val (rInt .i64) (0)]) (by kernel_rfl) (fun _ => (okint (okint (okint okn)))) rfl (.n rfl) rfl rfl ?_
    intro b66
    refine s_storebs 0 U78 rfl (c1 rfl (c1 rfl (c1 rfl cells_unit))) (by rfl) (.n rfl) rfl rfl (.t rfl) (.t rfl) (by rfl) <| s_st (st_freezeb (R := rDutyPiece) (a := x65) 0 [14] (c1 rfl (c1 rfl (c1 rfl cells_unit))) rfl rfl ⟨rfl, trivial⟩) ?_
    refine nq <| rr <| mv rfl <| ld U78 rfl <| s_bs (R := rDutyPiece) S60 Y78 (.n rfl) rfl rfl (.c (.t rfl) .n) rfl (by decide) ?_
    refine s_build (R := rDuty) B62 (.n rfl) rfl rfl rfl (.p (.t rfl) rfl (.n rfl)) ?_
    obtain ⟨p68, hp68, ho⟩ := bnd ho
    refine s_st (st_someptr (n := 40) hp68 rfl) ?_
    obtain ⟨y69, hy69, ho⟩ := bnd ho
    refine s_calll (g_duty_crew_faults_ok hy69) (.r flat_int .n) rfl (.n rfl) rfl rfl rfl .f (.c (.o (.t rfl)) (.c (.o (.t rfl)) .n)) ?_
    intro v70
    show SOps ..
    refine s_leno 0 S63 (.n rfl) rfl rfl rfl rfl rfl (.t rfl) rfl <| cmc rfl (by decide) .eql <| nq <| ct rfl (fun hq72 => ?_) (fun hq72 => ?_)
    ·have ho := cnd1 ho hq72
     refine r_seq ?_
     refine r_draw [] (by kernel_rfl) ?_
     refine mv rfl <| fa F78_0 fk_DutyPiece_0 (by decide) rfl <| ld U3 rfl ?_
     obtain ⟨x73, hx73, ho⟩ := bnd ho
     refine ix S23 hx73 rfl rfl <| ld U29 rfl <| fa F78_1 fk_DutyPiece_1 (by decide) rfl <| ld U3 rfl <| fa F78_2 fk_DutyPiece_2 (by decide) rfl <| ld U3 rfl <| arc rfl (by decide) .add ?_
     obtain ⟨x74, hx74, ho⟩ := bnd ho
     refine s_slO S29 hx74 (.n rfl) rfl rfl (.t rfl) (.s (.t rfl)) (.s (.t rfl)) <| ln S29 rfl rfl rfl (.t rfl) <| mvc (by decide) <| nq <| r_block ?_
     obtain ⟨t86, ht86, ho⟩ := bnd ho
     refine r_loop (σ := (Int × (List Bool))) (τ := ((List Bool))) (G := List AVal) (fun s g => ([(2, .val (rSlice (rSlice (rInt .i64))) (p_2)), (10, .val (rPtrN rduty_crew) (y2.1)), (12, .raw v6), (34, .raw v10), (35, .val (rInt .i64) ((lenI y9))), (36, .val (rInt .i64) (s62.1)), (57, .val (rSlice (rInt .i64)) (x74)), (58, .val (rInt .i64) ((lenI x74))), (59, .val (rInt .i64) (s.1))], [(v10, .row rDutyPiece (y9)), (v6, .row rBool (s.2))])) (fun b => (.exit 2, fun g => ([(2, .val (rSlice (rSlice (rInt .i64))) (p_2)), (10, .val (rPtrN rduty_crew) (y2.1)), (12, .raw v6), (34, .raw v10), (35, .val (rInt .i64) ((lenI y9))), (36, .val (rInt .i64) (s62.1))], [(v10, .row rDutyPiece (y9)), (v6, .row rBool (b))]))) _ [] ht86 (fun fr h s => s.pick [1, 2] ⟨rfl, rfl, rfl, rfl, rfl, rfl, rfl, rfl, rfl, trivial⟩ rfl (by decide)) ?_ ?_ ?_
     ·intro t
      exact nx
     ·clear ho
      intro s81 g82 r87 ho
      refine rr <| cm rfl rfl .lss <| nq <| r_seq <| ct rfl (fun hq83 => ?_) (fun hq83 => ?_)
      ·have ho := cnd1 ho hq83
       refine kq rfl <| r_seq <| r_block <| rr ?_
       obtain ⟨x84, hx84, ho⟩ := bnd ho
       refine ix S29 hx84 rfl rfl <| ld U3 rfl <| sg rfl <| nq <| r_region <| mv rfl <| mv rfl ?_
       obtain ⟨x85, hx85, ho⟩ := bnd ho
       refine s_idxo 1 S24 hx85 (.n rfl) rfl rfl (.t rfl) rfl (.t rfl) <| s_storeo 1 U4 FOk.self (idx_inv hx85).2.2.2 (.n rfl) rfl rfl (.t rfl) .b rfl rfl <| nq <| r_region <| arc rfl (by decide) .add <| mv rfl ?_
       cases ho
       exact s_nil (fun fr h s => And.intro rfl (Exists.intro [] (s.pick [0, 1] ⟨rfl, rfl, rfl, rfl, rfl, rfl, rfl, rfl, rfl, trivial⟩ rfl (by decide))))
      ·have ho := cnd0 ho hq83
       cases ho
       exact r_exit (fun fr h s => And.intro rfl (Exists.intro [] (s.pick [0, 1] ⟨rfl, rfl, rfl, rfl, rfl, rfl, trivial⟩ rfl (by decide))))
     ·intro g88
      show ∀ fr h, St _ [(2, .val (rSlice (rSlice (rInt .i64))) (p_2)), (10, .val (rPtrN rduty_crew) (y2.1)), (12, .raw v6), (34, .raw v10), (35, .val (rInt .i64) ((lenI y9))), (36, .val (rInt .i64) (s62.1))] [(v10, .row rDutyPiece (y9)), (v6, .row rBool (t86))] fr h → _
      show SRun ..
      refine r_region <| arc rfl (by decide) .add <| mv rfl ?_
      cases ho
      exact s_nil (fun fr h s => And.intro rfl (Exists.intro [] (s.pick [0, 1] ⟨rfl, rfl, rfl, rfl, rfl, rfl, trivial⟩ rfl (by decide))))
    ·have ho := cnd0 ho hq72
     refine kq rfl <| r_region <| arc rfl (by decide) .add <| mv rfl ?_
     cases ho
     exact s_nil (fun fr h s => And.intro rfl (Exists.intro [] (s.pick [1, 2] ⟨rfl, rfl, rfl, rfl, rfl, rfl, trivial⟩ rfl (by decide))))
   ·have ho := cnd0 ho hq64
    cases ho
    exact r_exit (fun fr h s => And.intro rfl (Exists.intro [] (s.pick [1] ⟨rfl, trivial⟩ rfl (by decide))))
  ·intro g91
   show ∀ fr h, St _ [(12, .raw v6)] [(v6, .row rBool (t89))] fr h → _
   show SRun ..
   refine rr <| s_st (st_nilrow (rInt .i64)) <| s_assign (.n rfl) rfl rfl .nilr <| nq <| r_seq <| rr <| mv rfl <| s_leno 1 S24 (.n rfl) rfl rfl rfl rfl rfl (.t rfl) rfl <| mvc (by decide) <| nq <| r_block ?_
   obtain ⟨t113, ht113, ho⟩ := bnd ho
   refine r_loop (σ := ((List Int) × Int)) (τ := ((List Int))) (G := List AVal) (fun s g => ([(17, .raw ((gh g 0))), (68, .raw v6), (69, .val (rInt .i64) ((lenI t89))), (70, .val (rInt .i64) (s.2))], [(v6, .row rBool (t89)), ((gh g 0), .row (rInt .i64) (s.1))])) (fun b => (.exit 4, fun g => ([(17, .raw ((gh g 0)))], [((gh g 0), .row (rInt .i64) (b))]))) _ [.nilslice] ht113 (fun fr h s => s.pick [1, 0] ⟨rfl, rfl, rfl, rfl, trivial⟩ rfl (by decide)) ?_ ?_ ?_
   ·intro t
    exact nx
   ·clear ho
    intro s100 g101 r114 ho
    refine rr <| cm rfl rfl .lss <| nq <| r_seq <| ct rfl (fun hq105 => ?_) (fun hq105 => ?_)
    ·have ho := cnd1 ho hq105
     refine kq rfl <| r_seq <| r_block <| rr <| mv rfl ?_
     obtain ⟨x106, hx106, ho⟩ := bnd ho
     refine s_idxo 0 S24 hx106 (.n rfl) rfl rfl (.t rfl) rfl (.t rfl) <| s_loado 0 (fun _ h => by cases h <;> rfl) U4 FOk.self (idx_inv hx106).2.2.2 (.n rfl) rfl rfl (.t rfl) rfl <| sg rfl <| sg rfl <| nq <| rr <| mv rfl <| s_not (.n rfl) rfl rfl (.t rfl) <| nq <| ct rfl (fun hq107 => ?_) (fun hq107 => ?_)
     ·have ho := cnd1 ho hq107
      refine r_region <| mv rfl <| mv rfl <| s_bs (R := (rInt .i64)) S29 Y3 (.n rfl) rfl rfl (.c (.t rfl) .n) rfl (by decide) ?_
      obtain ⟨x108, hx108, ho⟩ := bnd ho
      refine s_app 1 S29 Y3 hx108 (.n rfl) rfl rfl rfl rfl rfl (.t rfl) rfl (.t rfl) rfl ?_
      intro v109
      refine sg rfl <| nq <| r_region <| arc rfl (by decide) .add <| mv rfl ?_
      cases ho
      exact s_nil (fun fr h s => And.intro rfl (Exists.intro [v109] (s.pick [1, 0] ⟨rfl, rfl, rfl, rfl, trivial⟩ rfl (by decide))))
     ·have ho := cnd0 ho hq107
      refine kq rfl <| r_region <| arc rfl (by decide) .add <| mv rfl ?_
      cases ho
      exact s_nil (fun fr h s => And.intro rfl (Exists.intro [(gh g101 0)] (s.pick [0, 1] ⟨rfl, rfl, rfl, rfl, trivial⟩ rfl (by decide))))
    ·have ho := cnd0 ho hq105
     cases ho
     exact r_exit (fun fr h s => And.intro rfl (Exists.intro [(gh g101 0)] (s.pick [1] ⟨rfl, trivial⟩ rfl (by decide))))
   ·intro g115
    show ∀ fr h, St _ [(17, .raw ((gh g115 0)))] [((gh g115 0), .row (rInt .i64) (t113))] fr h → _
    show SRun ..
    refine rr <| mv rfl <| sg rfl <| sgc (by decide) <| nq ?_
    cases ho
    exact r_ret (ret_of (.inr rfl) (.r 0 rfl rfl (.v rfl .n)) (by decide))
theorem g_law08_Example_ok  {out : ((List Task) × Yard × WorkRules)} (ho : g_law08_Example = some out) : Fun ktab 38 [] [.val (rSlice rTask) (out.1), .val rYard (out.2.1), .val rWorkRules (out.2.2)] := by
 refine fun_of (F := Try.f38) (by rfl) (by rfl) (by rfl) (fun C hC => ?_)
 delta g_law08_Example at ho
 refine rr <| s_assign (.n rfl) rfl rfl (.nil (R := rTask)) ?_
 refine s_alloc (zv := .agg [.nilslice, .int .i64 0, .nilslice]) (es := [.val (rSlice (rSlice (rInt .i64))) ([]), .val (rInt .i64) (0), .val (rSlice rBool) ([])]) (by kernel_rfl) (fun _ => (oknil (okint (oknil okn)))) rfl (.n rfl) rfl rfl ?_
 intro b1
 refine s_alloc (zv := .agg [.int .i64 0, .int .i64 0, .int .i64 0, .int .i64 0, .int .i64 0, .int .i64 0]) (es := [.val (rInt .i64) (0), .val (rInt .i64) (0), .val (rInt .i64) (0), .val (rInt .i64) (0), .val (rInt .i64) (0), .val (rInt .i64) (0)]) (by kernel_rfl) (fun _ => (okint (okint (okint (okint (okint (okint okn))))))) rfl (.n rfl) rfl rfl ?_
 intro b3
 refine nq <| rr <| s_build (R := rTask) B87 (.n rfl) rfl rfl rfl (.z (fun _ => zint) (.p (.i (by decide) (by decide)) rfl (.z (fun _ => zint) (.p (.i (by decide) (by decide)) rfl (.n rfl))))) ?_
 refine s_build (R := rTask) B87 (.n rfl) rfl rfl rfl (.z (fun _ => zint) (.p (.i (by decide) (by decide)) rfl (.p (.i (by decide) (by decide)) rfl (.p (.i (by decide) (by decide)) rfl (.n rfl))))) ?_
 refine s_build (R := rTask) B87 (.n rfl) rfl rfl rfl (.p (.i (by decide) (by decide)) rfl (.z (fun _ => zint) (.p (.i (by decide) (by decide)) rfl (.p (.i (by decide) (by decide)) rfl (.n rfl))))) ?_
 refine s_build (R := rTask) B87 (.n rfl) rfl rfl rfl (.p (.i (by decide) (by decide)) rfl (.z (fun _ => zint) (.p (.i (by decide) (by decide)) rfl (.p (.i (by decide) (by decide)) rfl (.n rfl))))) ?_
 refine s_build (R := rTask) B87 (.n rfl) rfl rfl rfl (.z (fun _ => zint) (.p (.i (by decide) (by decide)) rfl (.p (.i (by decide) (by decide)) rfl (.p (.i (by decide) (by decide)) rfl (.n rfl))))) ?_
 refine s_bs (R := rTask) S22 Y87 (.n rfl) rfl rfl (.c (.t rfl) (.c (.t rfl) (.c (.t rfl) (.c (.t rfl) (.c (.t rfl) .n))))) rfl (by decide) ?_
 refine s_bs (R := (rInt .i64)) S29 Y3 (.n rfl) rfl rfl (.c (.i (by decide) (by decide)) (.c (.i (by decide) (by decide)) .n)) rfl (by decide) ?_
 refine s_bs (R := (rInt .i64)) S29 Y3 (.n rfl) rfl rfl (.c (.i (by decide) (by decide)) (.c (.i (by decide) (by decide)) .n)) rfl (by decide) ?_
 refine s_bs (R := (rSlice (rInt .i64))) S23 Y29 (.n rfl) rfl rfl (.c (.t rfl) (.c (.t rfl) .n)) rfl (by decide) ?_
 refine s_bs (R := rBool) S24 Y4 (.n rfl) rfl rfl (.c .b (.c .b .n)) rfl (by decide) ?_
 refine s_build (R := rYard) B26 (.n rfl) rfl rfl rfl (.p (.t rfl) rfl (.p (.i (by decide) (by decide)) rfl (.p (.t rfl) rfl (.n rfl)))) ?_
 refine s_build (R := rWorkRules) B42 (.n rfl) rfl rfl rfl (.p (.i (by decide) (by decide)) rfl (.p (.i (by decide) (by decide)) rfl (.p (.i (by decide) (by decide)) rfl (.p (.i (by decide) (by decide)) rfl (.p (.i (by decide) (by decide)) rfl (.p (.i (by decide) (by decide)) rfl (.n rfl))))))) ?_
 refine sg rfl <| s_storebs 1 U26 rfl (c1 rfl (c1 rfl (c1 rfl cells_unit))) (by rfl) (.n rfl) rfl rfl (.t rfl) (.t rfl) (by rfl) <| s_storebs 0 U42 rfl (c1 rfl (c1 rfl (c1 rfl (c1 rfl (c1 rfl (c1 rfl cells_unit)))))) (by rfl) (.n rfl) rfl rfl (.t rfl) (.t rfl) (by rfl) <| nq ?_
 cases ho
 exact r_ret (ret_of (.inr rfl) (.v rfl (.b 1 U26 (c1 rfl (c1 rfl (c1 rfl cells_unit))) rfl rfl (.b 0 U42 (c1 rfl (c1 rfl (c1 rfl (c1 rfl (c1 rfl (c1 rfl cells_unit)))))) rfl rfl .n))) (by decide))
theorem g_law08_known_ok  {out : (Bool)} (ho : g_law08_known = some out) : Fun ktab 13 [] [.val rBool (out)] := by
 refine fun_of (F := Try.f13) (by rfl) (by rfl) (by rfl) (fun C hC => ?_)
 delta g_law08_known at ho
 refine rr <| sgb <| nq <| rr ?_
 obtain ⟨y1, hy1, ho⟩ := bnd ho
 refine s_call (pre := []) (post := []) (vs := []) (g_law08_Example_ok hy1) rfl (.n rfl) rfl rfl rfl .f .n ?_
 show SOps ..
 refine mv rfl <| ext rfl rfl <| ext rfl rfl <| ext rfl rfl <| s_alloc (zv := .agg [.nilslice, .int .i64 0, .nilslice]) (es := [.val (rSlice (rSlice (rInt .i64))) ([]), .val (rInt .i64) (0), .val (rSlice rBool) ([])]) (by kernel_rfl) (fun _ => (oknil (okint (oknil okn)))) rfl (.n rfl) rfl rfl ?_
 intro b2
 refine s_alloc (zv := .agg [.int .i64 0, .int .i64 0, .int .i64 0, .int .i64 0, .int .i64 0, .int .i64 0]) (es := [.val (rInt .i64) (0), .val (rInt .i64) (0), .val (rInt .i64) (0), .val (rInt .i64) (0), .val (rInt .i64) (0), .val (rInt .i64) (0)]) (by kernel_rfl) (fun _ => (okint (okint (okint (okint (okint (okint okn))))))) rfl (.n rfl) rfl rfl ?_
 intro b4
 refine sg rfl <| s_storebs 1 U26 rfl (c1 rfl (c1 rfl (c1 rfl cells_unit))) (by rfl) (.n rfl) rfl rfl (.t rfl) (.t rfl) (by rfl) <| s_st (st_freezeb (R := rYard) (a := y1.2.1) 1 [2] (c1 rfl (c1 rfl (c1 rfl cells_unit))) rfl rfl ⟨rfl, trivial⟩) ?_
 refine s_storebs 0 U42 rfl (c1 rfl (c1 rfl (c1 rfl (c1 rfl (c1 rfl (c1 rfl cells_unit)))))) (by rfl) (.n rfl) rfl rfl (.t rfl) (.t rfl) (by rfl) <| nq <| rr <| mv rfl <| ld U26 rfl ?_
 obtain ⟨y6, hy6, ho⟩ := bnd ho
 refine s_call (pre := []) (post := []) (vs := []) (g_duty_Cars_ok hy6) rfl (.n rfl) rfl rfl rfl .f (.c (.t rfl) (.c (.t rfl) .n)) ?_
 intro v7
 show SOps ..
 refine mv rfl <| ext rfl rfl <| ext rfl rfl <| ext rfl rfl <| s_alloc (zv := .agg [.nilslice, .nilslice]) (es := [.val (rSlice (rInt .i64)) ([]), .val (rSlice (rInt .i64)) ([])]) (by kernel_rfl) (fun _ => (oknil (oknil okn))) rfl (.n rfl) rfl rfl ?_
 intro b9
 refine sg rfl <| s_storebs 0 U31 rfl (c1 rfl (c1 rfl cells_unit)) (by rfl) (.n rfl) rfl rfl (.t rfl) (.t rfl) (by rfl) <| s_st (st_freezeb (R := rDutyProof) (a := y6.2.1) 0 [5] (c1 rfl (c1 rfl cells_unit)) rfl rfl ⟨rfl, trivial⟩) ?_
 refine sg rfl <| nq <| rr <| mv rfl <| ld U26 rfl <| s_bs (R := (rInt .i64)) S29 Y3 (.n rfl) rfl rfl (.c (.i (by decide) (by decide)) (.c (.i (by decide) (by decide)) (.c (.i (by decide) (by decide)) .n))) rfl (by decide) ?_
 refine s_bs (R := (rInt .i64)) S29 Y3 (.n rfl) rfl rfl (.c (.i (by decide) (by decide)) (.c (.i (by decide) (by decide)) .n)) rfl (by decide) ?_
 refine s_bs (R := (rSlice (rInt .i64))) S23 Y29 (.n rfl) rfl rfl (.c (.t rfl) (.c (.t rfl) .n)) rfl (by decide) ?_
 refine s_loadbs (R := rWorkRules) (a := y1.2.2) 1 (fun _ h => by cases h <;> rfl) U42 (c1 rfl (c1 rfl (c1 rfl (c1 rfl (c1 rfl (c1 rfl cells_unit)))))) (.n rfl) rfl rfl (.t rfl) rfl ?_
 obtain ⟨y11, hy11, ho⟩ := bnd ho
 refine s_call (pre := []) (post := []) (vs := []) (g_duty_Duties_ok hy11) rfl (.n rfl) rfl rfl rfl .f (.c (.t rfl) (.c (.t rfl) (.c (.t rfl) (.c (.t rfl) .n)))) ?_
 intro v12
 show SOps ..
 refine mv rfl <| ext rfl rfl <| ext rfl rfl <| sg rfl <| sg rfl <| nq <| rr <| faw F42_0 (by decide) rfl <| s_storeb 2 (U3).sz rfl (by exact Nat.le_of_ble_eq_true rfl) (.n rfl) rfl rfl (.t rfl) (.i (by decide) (by decide)) rfl rfl <| nq <| rr <| mv rfl <| ld U26 rfl <| s_bs (R := (rInt .i64)) S29 Y3 (.n rfl) rfl rfl (.c (.i (by decide) (by decide)) (.c (.i (by decide) (by decide)) (.c (.i (by decide) (by decide)) .n))) rfl (by decide) ?_
 refine s_bs (R := (rInt .i64)) S29 Y3 (.n rfl) rfl rfl (.c (.i (by decide) (by decide)) (.c (.i (by decide) (by decide)) .n)) rfl (by decide) ?_
 refine s_bs (R := (rSlice (rInt .i64))) S23 Y29 (.n rfl) rfl rfl (.c (.t rfl) (.c (.t rfl) .n)) rfl (by decide) ?_
 refine s_loadbs (R := rWorkRules) (a := (129, y1.2.2.2.1, y1.2.2.2.2.1, y1.2.2.2.2.2.1, y1.2.2.2.2.2.2.1, y1.2.2.2.2.2.2.2.1, ())) 2 (fun _ h => by cases h <;> rfl) U42 (c1 rfl (c1 rfl (c1 rfl (c1 rfl (c1 rfl (c1 rfl cells_unit)))))) (.n rfl) rfl rfl (.t rfl) rfl ?_
 obtain ⟨y14, hy14, ho⟩ := bnd ho
 refine s_calll (g_duty_Bare_ok hy14) (.r flat_int (.v flat_int .n)) rfl (.n rfl) rfl rfl rfl .f (.c (.o (.t rfl)) (.c (.o (.t rfl)) (.c (.o (.t rfl)) (.c (.o (.t rfl)) .n)))) ?_
 intro v15
 show SOps ..
 refine mv rfl <| ext rfl rfl <| ext rfl rfl <| sg rfl <| sg rfl <| nq <| r_seq <| r_seq ?_
 obtain ⟨c19, hc19, ho⟩ := bnd ho
 refine r_cut (τ := (Bool)) (G := Unit) (fun t => (.normal, fun _ => ([(4, .raw v7), (5, .val (rPtr rDutyProof) (y6.2.1)), (7, .raw v12), (9, .raw v15), (53, .val rBool (t))], [(v15, .row (rInt .i64) (y14.1)), (v12, .row rDuty (y11.1)), (v7, .row (rSlice (rInt .i64)) (y6.1)), (.ptr b4 0, .box [.val (rInt .i64) (129), .val (rInt .i64) (y1.2.2.2.1), .val (rInt .i64) (y1.2.2.2.2.1), .val (rInt .i64) (y1.2.2.2.2.2.1), .val (rInt .i64) (y1.2.2.2.2.2.2.1), .val (rInt .i64) (y1.2.2.2.2.2.2.2.1)])]))) (t := c19) ?_ ?_
 ·have ho := hc19
  clear hc19
  refine r_region <| mv rfl <| cmc rfl (by decide) .neq <| mv rfl ?_
  rcases Bool.eq_false_or_eq_true ((y6.2.2 != 0)) with hb20 | hb20
  ·have ho := cnd1 ho hb20
   refine skg (gf1 hb20) rfl rfl <| skg (gf1 hb20) rfl rfl <| pk1 hb20 rfl .b <| mv rfl <| skg rfl rfl rfl <| skg rfl rfl rfl <| pt rfl .b ?_
   cases ho
   exact s_nil (fun fr h s => And.intro rfl (Exists.intro () (s.pick [0, 1, 2, 3] ⟨rfl, rfl, rfl, rfl, rfl, trivial⟩ rfl (by decide))))
  ·have ho := cnd0 ho hb20
   refine mvg (gf0 hb20) rfl rfl rfl <| s_cmp (.g rfl rfl (gf0 hb20)) rfl rfl (.t rfl) (.i (by decide) (by decide)) .neq <| pk0 hb20 rfl (.t rfl) <| mv rfl ?_
   rcases Bool.eq_false_or_eq_true ((y11.2 != 0)) with hb21 | hb21
   ·have ho := cnd1 ho hb21
    refine skg (gf1 hb21) rfl rfl <| skg (gf1 hb21) rfl rfl <| pk1 hb21 rfl .b ?_
    cases ho
    exact s_nil (fun fr h s => And.intro rfl (Exists.intro () (s.pick [0, 1, 2, 3] ⟨rfl, rfl, rfl, rfl, rfl, trivial⟩ rfl (by decide))))
   ·have ho := cnd0 ho hb21
    refine mvg (gf0 hb21) rfl rfl rfl <| s_cmp (.g rfl rfl (gf0 hb21)) rfl rfl (.t rfl) (.i (by decide) (by decide)) .neq <| pk0 hb21 rfl (.t rfl) ?_
    cases ho
    exact s_nil (fun fr h s => And.intro rfl (Exists.intro () (s.pick [0, 1, 2, 3] ⟨rfl, rfl, rfl, rfl, rfl, trivial⟩ rfl (by decide))))
 ·intro _
  show SRun ..
  refine ct rfl (fun hq22 => ?_) (fun hq22 => ?_)
  ·have ho := cnd1 ho hq22
   refine rr <| sgb <| nq ?_
   cases ho
   exact r_ret (ret_of (.inr rfl) (.v rfl .n) (by decide))
  ·have ho := cnd0 ho hq22
   refine kq rfl <| r_seq ?_
   obtain ⟨c32, hc32, ho⟩ := bnd ho
   refine r_cut (τ := (Bool)) (G := Unit) (fun t => (.normal, fun _ => ([(0, .val rBool (t))], [(v15, .row (rInt .i64) (y14.1)), (v12, .row rDuty (y11.1)), (v7, .row (rSlice (rInt .i64)) (y6.1)), (.ptr b4 0, .box [.val (rInt .i64) (129), .val (rInt .i64) (y1.2.2.2.1), .val (rInt .i64) (y1.2.2.2.2.1), .val (rInt .i64) (y1.2.2.2.2.2.1), .val (rInt .i64) (y1.2.2.2.2.2.2.1), .val (rInt .i64) (y1.2.2.2.2.2.2.2.1)])]))) (t := c32) ?_ ?_
   ·have ho := hc32
    clear hc32
    refine r_region <| mv rfl <| s_bs (R := (rInt .i64)) S29 Y3 (.n rfl) rfl rfl (.c (.i (by decide) (by decide)) (.c (.i (by decide) (by decide)) (.c (.i (by decide) (by decide)) .n))) rfl (by decide) ?_
    refine s_bs (R := (rInt .i64)) S29 Y3 (.n rfl) rfl rfl (.c (.i (by decide) (by decide)) (.c (.i (by decide) (by decide)) .n)) rfl (by decide) ?_
    refine s_bs (R := (rSlice (rInt .i64))) S23 Y29 (.n rfl) rfl rfl (.c (.t rfl) (.c (.t rfl) .n)) rfl (by decide) ?_
    obtain ⟨y33, hy33, ho⟩ := bnd ho
    refine s_calll (g_ref08_Lists_ok hy33) (.v flat_bool .n) rfl (.n rfl) rfl rfl rfl .f (.c (.r 2 (.t rfl) rfl) (.c (.o (.t rfl)) .n)) ?_
    show SOps ..
    refine mv rfl ?_
    rcases Bool.eq_false_or_eq_true (y33) with hb34 | hb34
    ·have ho := cnd1 ho hb34
     refine s_fa F31_0 fk_DutyProof_0 (by decide) (.g rfl rfl (gt1 hb34)) rfl rfl (.t rfl) <| ldg U29 (gt1 hb34) rfl rfl rfl <| s_bs (R := (rInt .i64)) S29 Y3 (.g rfl rfl (gt1 hb34)) rfl rfl (.c (.i (by decide) (by decide)) (.c (.i (by decide) (by decide)) .n)) rfl (by decide) ?_
     obtain ⟨y35, hy35, ho⟩ := bnd ho
     refine s_calll (g_ref08_Same_ok hy35) (.v flat_bool .n) rfl (.g rfl rfl (gt1 hb34)) rfl rfl rfl .f (.c (.o (.t rfl)) (.c (.o (.t rfl)) .n)) ?_
     show SOps ..
     refine pk1 hb34 rfl (.t rfl) <| mv rfl ?_
     rcases Bool.eq_false_or_eq_true (y35) with hb36 | hb36
     ·have ho := cnd1 ho hb36
      refine s_fa F31_1 fk_DutyProof_1 (by decide) (.g rfl rfl (gt1 hb36)) rfl rfl (.t rfl) <| ldg U29 (gt1 hb36) rfl rfl rfl <| s_bs (R := (rInt .i64)) S29 Y3 (.g rfl rfl (gt1 hb36)) rfl rfl (.c (.i (by decide) (by decide)) .n) rfl (by decide) ?_
      obtain ⟨y37, hy37, ho⟩ := bnd ho
      refine s_calll (g_ref08_Same_ok hy37) (.v flat_bool .n) rfl (.g rfl rfl (gt1 hb36)) rfl rfl rfl .f (.c (.o (.t rfl)) (.c (.o (.t rfl)) .n)) ?_
      show SOps ..
      refine pk1 hb36 rfl (.t rfl) <| mv rfl ?_
      rcases Bool.eq_false_or_eq_true (y37) with hb38 | hb38
      ·have ho := cnd1 ho hb38
       refine mvg (gt1 hb38) rfl rfl rfl <| s_build (R := rDutyPiece) B78 (.g rfl rfl (gt1 hb38)) rfl rfl rfl (.z (fun _ => zint) (.z (fun _ => zint) (.p (.i (by decide) (by decide)) rfl (.n rfl)))) ?_
       refine s_bs (R := rDutyPiece) S60 Y78 (.g rfl rfl (gt1 hb38)) rfl rfl (.c (.t rfl) .n) rfl (by decide) ?_
       refine s_build (R := rDuty) B62 (.g rfl rfl (gt1 hb38)) rfl rfl rfl (.p (.t rfl) rfl (.n rfl)) ?_
       refine s_build (R := rDutyPiece) B78 (.g rfl rfl (gt1 hb38)) rfl rfl rfl (.p (.i (by decide) (by decide)) rfl (.z (fun _ => zint) (.p (.i (by decide) (by decide)) rfl (.n rfl)))) ?_
       refine s_build (R := rDutyPiece) B78 (.g rfl rfl (gt1 hb38)) rfl rfl rfl (.z (fun _ => zint) (.p (.i (by decide) (by decide)) rfl (.p (.i (by decide) (by decide)) rfl (.n rfl)))) ?_
       refine s_bs (R := rDutyPiece) S60 Y78 (.g rfl rfl (gt1 hb38)) rfl rfl (.c (.t rfl) (.c (.t rfl) .n)) rfl (by decide) ?_
       refine s_build (R := rDuty) B62 (.g rfl rfl (gt1 hb38)) rfl rfl rfl (.p (.t rfl) rfl (.n rfl)) ?_
       refine s_bs (R := rDuty) S44 Y62 (.g rfl rfl (gt1 hb38)) rfl rfl (.c (.t rfl) (.c (.t rfl) .n)) rfl (by decide) ?_
       obtain ⟨y39, hy39, ho⟩ := bnd ho
       refine s_calll (g_ref08_Plans_ok hy39) (.v flat_bool .n) rfl (.g rfl rfl (gt1 hb38)) rfl rfl rfl .f (.c (.r 1 (.t rfl) rfl) (.c (.o (.t rfl)) .n)) ?_
       show SOps ..
       refine pk1 hb38 rfl (.t rfl) <| mv rfl ?_
       rcases Bool.eq_false_or_eq_true (y39) with hb40 | hb40
       ·have ho := cnd1 ho hb40
        refine mvg (gt1 hb40) rfl rfl rfl <| s_bs (R := (rInt .i64)) S29 Y3 (.g rfl rfl (gt1 hb40)) rfl rfl (.c (.i (by decide) (by decide)) (.c (.i (by decide) (by decide)) .n)) rfl (by decide) ?_
        obtain ⟨y41, hy41, ho⟩ := bnd ho
        refine s_calll (g_ref08_Same_ok hy41) (.v flat_bool .n) rfl (.g rfl rfl (gt1 hb40)) rfl rfl rfl .f (.c (.r 0 (.t rfl) rfl) (.c (.o (.t rfl)) .n)) ?_
        show SOps ..
        refine pk1 hb40 rfl (.t rfl) <| sg rfl ?_
        cases ho
        exact s_nil (fun fr h s => And.intro rfl (Exists.intro () (s.pick [0, 1, 2, 3] ⟨rfl, trivial⟩ rfl (by decide))))
       ·have ho := cnd0 ho hb40
        refine skg (gt0 hb40) rfl rfl <| skg (gt0 hb40) rfl rfl <| skg (gt0 hb40) rfl rfl <| pk0 hb40 rfl .b <| sg rfl ?_
        cases ho
        exact s_nil (fun fr h s => And.intro rfl (Exists.intro () (s.pick [0, 1, 2, 3] ⟨rfl, trivial⟩ rfl (by decide))))
      ·have ho := cnd0 ho hb38
       refine skg (gt0 hb38) rfl rfl <| skg (gt0 hb38) rfl rfl <| skg (gt0 hb38) rfl rfl <| skg (gt0 hb38) rfl rfl <| skg (gt0 hb38) rfl rfl <| skg (gt0 hb38) rfl rfl <| skg (gt0 hb38) rfl rfl <| skg (gt0 hb38) rfl rfl <| skg (gt0 hb38) rfl rfl <| skg (gt0 hb38) rfl rfl <| pk0 hb38 rfl .b <| mv rfl <| skg rfl rfl rfl <| skg rfl rfl rfl <| skg rfl rfl rfl <| s_pick0 (.n rfl) rfl rfl (.t rfl) .b <| sg rfl ?_
       cases ho
       exact s_nil (fun fr h s => And.intro rfl (Exists.intro () (s.pick [0, 1, 2, 3] ⟨rfl, trivial⟩ rfl (by decide))))
     ·have ho := cnd0 ho hb36
      refine skg (gt0 hb36) rfl rfl <| skg (gt0 hb36) rfl rfl <| skg (gt0 hb36) rfl rfl <| skg (gt0 hb36) rfl rfl <| pk0 hb36 rfl .b <| mv rfl <| skg rfl rfl rfl <| skg rfl rfl rfl <| skg rfl rfl rfl <| skg rfl rfl rfl <| skg rfl rfl rfl <| skg rfl rfl rfl <| skg rfl rfl rfl <| skg rfl rfl rfl <| skg rfl rfl rfl <| skg rfl rfl rfl <| s_pick0 (.n rfl) rfl rfl (.t rfl) .b <| mv rfl <| skg rfl rfl rfl <| skg rfl rfl rfl ?_
      refine skg rfl rfl rfl <| s_pick0 (.n rfl) rfl rfl (.t rfl) .b <| sg rfl ?_
      cases ho
      exact s_nil (fun fr h s => And.intro rfl (Exists.intro () (s.pick [0, 1, 2, 3] ⟨rfl, trivial⟩ rfl (by decide))))
    ·have ho := cnd0 ho hb34
     refine skg (gt0 hb34) rfl rfl <| skg (gt0 hb34) rfl rfl <| skg (gt0 hb34) rfl rfl <| skg (gt0 hb34) rfl rfl <| pk0 hb34 rfl .b <| mv rfl <| skg rfl rfl rfl <| skg rfl rfl rfl <| skg rfl rfl rfl <| skg rfl rfl rfl <| s_pick0 (.n rfl) rfl rfl (.t rfl) .b <| mv rfl <| skg rfl rfl rfl <| skg rfl rfl rfl <| skg rfl rfl rfl <| skg rfl rfl rfl <| skg rfl rfl rfl <| skg rfl rfl rfl <| skg rfl rfl rfl <| skg rfl rfl rfl ?_
     refine skg rfl rfl rfl <| skg rfl rfl rfl <| s_pick0 (.n rfl) rfl rfl (.t rfl) .b <| mv rfl <| skg rfl rfl rfl <| skg rfl rfl rfl <| skg rfl rfl rfl <| s_pick0 (.n rfl) rfl rfl (.t rfl) .b <| sg rfl ?_
     cases ho
     exact s_nil (fun fr h s => And.intro rfl (Exists.intro () (s.pick [0, 1, 2, 3] ⟨rfl, trivial⟩ rfl (by decide))))
   ·intro _
    show SRun ..
    cases ho
    exact r_ret (ret_of (.inr rfl) (.v rfl .n) (by decide))
end Go.Ai.TabYtdhenjdmpacklaa

/- Written by program: walks through functions. -/
namespace Go.Ai.TabYtdhenjdmpacklaa
open Go Go.Ai Go.Ai.Sx Go.Proofs
attribute [local irreducible] SOps
set_option maxRecDepth 100000
theorem g_law08_few_ok {t_0 : (List Task)} {y_1 : Yard} {most_2 : Int} {out : (Bool)} (ho : g_law08_few t_0 y_1 most_2 = some out) : Fun ktab 12 [.val (rSlice rTask) t_0, .val rYard y_1, .val (rInt .i64) most_2] [.val rBool (out)] := by
 refine fun_of (F := Try.f12) (by rfl) (by rfl) (by rfl) (fun C hC => ?_)
 delta g_law08_few at ho
 refine rr <| bx rfl <| sgb <| nq <| r_seq <| r_seq ?_
 obtain ⟨c2, hc2, ho⟩ := bnd ho
 refine r_cut (τ := (Bool)) (G := Unit) (fun t => (.normal, fun _ => ([(0, .val (rSlice rTask) (t_0)), (2, .val (rInt .i64) (most_2)), (4, .val (rPtr rYard) (y_1)), (17, .val rBool (t))], []))) (t := c2) ?_ ?_
 ·have ho := hc2
  clear hc2
  refine r_region <| fa F26_2 fk_Yard_2 (by decide) rfl <| ld U24 rfl <| ln S24 rfl rfl rfl (.t rfl) <| cmc rfl (by decide) .gtr <| mv rfl ?_
  rcases Bool.eq_false_or_eq_true ((decide ((lenI y_1.2.2.1) > 50))) with hb3 | hb3
  ·have ho := cnd1 ho hb3
   refine skg (gf1 hb3) rfl rfl <| skg (gf1 hb3) rfl rfl <| skg (gf1 hb3) rfl rfl <| skg (gf1 hb3) rfl rfl <| pk1 hb3 rfl .b ?_
   cases ho
   exact s_nil fun _ _ s => fz () s ⟨rfl, rfl, rfl, rfl, trivial⟩ rfl
  ·have ho := cnd0 ho hb3
   refine s_fa F26_0 fk_Yard_0 (by decide) (.g rfl rfl (gf0 hb3)) rfl rfl (.t rfl) <| ldg U23 (gf0 hb3) rfl rfl rfl <| s_len S23 (.g rfl rfl (gf0 hb3)) rfl rfl rfl rfl rfl (.t rfl) <| s_cmp (.g rfl rfl (gf0 hb3)) rfl rfl (.t rfl) (.i (by decide) (by decide)) .gtr <| pk0 hb3 rfl (.t rfl) ?_
   cases ho
   exact s_nil fun _ _ s => fz () s ⟨rfl, rfl, rfl, rfl, trivial⟩ rfl
 ·intro _
  show SRun ..
  refine ct rfl (fun hq4 => ?_) (fun hq4 => ?_)
  ·have ho := cnd1 ho hq4
   refine rr <| sgb <| nq ?_
   cases ho
   exact r_ret (ret_of (.inr rfl) (.v rfl .n) (by decide))
  ·have ho := cnd0 ho hq4
   refine kq rfl <| r_seq <| rr <| sgc (by decide) <| nq <| r_block ?_
   obtain ⟨t13, ht13, ho⟩ := bnd ho
   refine r_loop (σ := (Int)) (τ := Unit ⊕ (Bool)) (G := List AVal) (fun s g => ([(0, .val (rSlice rTask) (t_0)), (2, .val (rInt .i64) (most_2)), (4, .val (rPtr rYard) (y_1)), (7, .val (rInt .i64) (s))], [])) (altX (fun b => (.exit 0, fun g => ([(0, .val (rSlice rTask) (t_0)), (2, .val (rInt .i64) (most_2))], []))) (fun b => (.ret, fun g => ([(6, .val rBool (b))], [])))) _ [] ht13 (fun fr h s => s.pick [] ⟨rfl, rfl, rfl, rfl, trivial⟩ rfl (by decide)) ?_ ?_ ?_
   ·intro t
    rcases t with t | t
    ·exact nx
    ·exact nr
   ·clear ho
    intro s8 g9 r14 ho
    refine r_seq <| rr <| mv rfl <| fa F26_0 fk_Yard_0 (by decide) rfl <| ld U23 rfl <| ln S23 rfl rfl rfl (.t rfl) <| cm rfl rfl .lss <| nq <| ct rfl (fun hq10 => ?_) (fun hq10 => ?_)
    ·have ho := cnd1 ho hq10
     refine kq rfl <| r_seq <| r_block <| rr <| fa F26_0 fk_Yard_0 (by decide) rfl <| ld U23 rfl <| mv rfl ?_
     obtain ⟨x11, hx11, ho⟩ := bnd ho
     refine ix S23 hx11 rfl rfl <| ld U29 rfl <| ln S29 rfl rfl rfl (.t rfl) <| cmc rfl (by decide) .gtr <| nq <| ct rfl (fun hq12 => ?_) (fun hq12 => ?_)
     ·have ho := cnd1 ho hq12
      refine rr <| sgb <| nq ?_
      cases ho
      exact r_ret fun _ _ s => fz [] s ⟨rfl, trivial⟩ rfl
     ·have ho := cnd0 ho hq12
      refine kq rfl <| r_region <| mv rfl <| arc rfl (by decide) .add <| sg rfl ?_
      cases ho
      exact s_nil fun _ _ s => fz [] s ⟨rfl, rfl, rfl, rfl, trivial⟩ rfl
    ·have ho := cnd0 ho hq10
     cases ho
     exact r_exit fun _ _ s => fz [] s ⟨rfl, rfl, trivial⟩ rfl
   ·clear ht13
    rcases t13 with b15 | b16
    ·have ho := alt_l ho
     intro g17
     show ∀ fr h, St _ [(0, .val (rSlice rTask) (t_0)), (2, .val (rInt .i64) (most_2))] [] fr h → _
     show SRun ..
     refine r_seq ?_
     obtain ⟨c20, hc20, ho⟩ := bnd ho
     refine r_cut (τ := (Bool)) (G := Unit) (fun t => (.normal, fun _ => ([(6, .val rBool (t))], []))) (t := c20) ?_ ?_
     ·have ho := hc20
      clear hc20
      refine r_region <| mv rfl <| ln S22 rfl rfl rfl (.t rfl) <| mv rfl <| cm rfl rfl .leq <| mv rfl ?_
      rcases Bool.eq_false_or_eq_true ((decide ((lenI t_0) ≤ most_2))) with hb21 | hb21
      ·have ho := cnd1 ho hb21
       refine skg (gf1 hb21) rfl rfl <| skg (gf1 hb21) rfl rfl <| skg (gf1 hb21) rfl rfl <| skg (gf1 hb21) rfl rfl <| sku rfl rfl <| sku rfl rfl <| sku rfl rfl <| skg (gf1 hb21) rfl rfl <| pk1 hb21 rfl .b <| sg rfl ?_
       cases ho
       exact s_nil fun _ _ s => fz () s ⟨rfl, trivial⟩ rfl
      ·have ho := cnd0 ho hb21
       refine mvg (gf0 hb21) rfl rfl rfl <| s_len S22 (.g rfl rfl (gf0 hb21)) rfl rfl rfl rfl rfl (.t rfl) <| s_cmp (.g rfl rfl (gf0 hb21)) rfl rfl (.t rfl) (.i (by decide) (by decide)) .gtr <| mvg (gf0 hb21) rfl rfl rfl ?_
       rcases Bool.eq_false_or_eq_true ((decide ((lenI t_0) > 60))) with hb22 | hb22
       ·have ho := cnd1 ho hb22
        refine mvg (gt1 hb22) rfl rfl rfl <| s_len S22 (.g rfl rfl (gt1 hb22)) rfl rfl rfl rfl rfl (.t rfl) <| s_cmp (.g rfl rfl (gt1 hb22)) rfl rfl (.t rfl) (.i (by decide) (by decide)) .lss <| s_pk1 hb22 (.g rfl rfl (gf0 hb21)) rfl rfl (.t rfl) (.t rfl) <| pk0 hb21 rfl (.t rfl) <| sg rfl ?_
        cases ho
        exact s_nil fun _ _ s => fz () s ⟨rfl, trivial⟩ rfl
       ·have ho := cnd0 ho hb22
        refine skg (gt0 hb22) rfl rfl <| skg (gt0 hb22) rfl rfl <| skg (gt0 hb22) rfl rfl <| s_pk0 hb22 (.g rfl rfl (gf0 hb21)) rfl rfl (.t rfl) .b <| pk0 hb21 rfl (.t rfl) <| sg rfl ?_
        cases ho
        exact s_nil fun _ _ s => fz () s ⟨rfl, trivial⟩ rfl
     ·intro _
      show SRun ..
      cases ho
      exact r_ret (ret_of (.inr rfl) (.v rfl .n) (by decide))
    ·have ho := alt_r ho
     intro g23
     show ∀ fr h, St _ [(6, .val rBool (b16))] [] fr h → _
     cases ho
     exact id (ret_of (.inr rfl) (.v rfl .n) (by decide))
theorem g_ref08_in_ok {x_0 : Int} {low_1 : Int} {high_2 : Int} {out : (Bool)} (ho : g_ref08_in x_0 low_1 high_2 = some out) : Fun ktab 42 [.val (rInt .i64) x_0, .val (rInt .i64) low_1, .val (rInt .i64) high_2] [.val rBool (out)] := by
 refine fun_of (F := Try.f42) (by rfl) (by rfl) (by rfl) (fun C hC => ?_)
 delta g_ref08_in at ho
 refine rr <| sgb <| nq <| r_seq ?_
 obtain ⟨c2, hc2, ho⟩ := bnd ho
 refine r_cut (τ := (Bool)) (G := Unit) (fun t => (.normal, fun _ => ([(6, .val rBool (t))], []))) (t := c2) ?_ ?_
 ·have ho := hc2
  clear hc2
  refine r_region <| mv rfl <| mv rfl <| cm rfl rfl .geq <| mv rfl ?_
  rcases Bool.eq_false_or_eq_true ((decide (x_0 ≥ low_1))) with hb3 | hb3
  ·have ho := cnd1 ho hb3
   refine mvg (gt1 hb3) rfl rfl rfl <| mvg (gt1 hb3) rfl rfl rfl <| s_cmp (.g rfl rfl (gt1 hb3)) rfl rfl (.t rfl) (.t rfl) .leq <| pk1 hb3 rfl (.t rfl) <| sg rfl ?_
   cases ho
   exact s_nil fun _ _ s => fz () s ⟨rfl, trivial⟩ rfl
  ·have ho := cnd0 ho hb3
   refine skg (gt0 hb3) rfl rfl <| skg (gt0 hb3) rfl rfl <| skg (gt0 hb3) rfl rfl <| pk0 hb3 rfl .b <| sg rfl ?_
   cases ho
   exact s_nil fun _ _ s => fz () s ⟨rfl, trivial⟩ rfl
 ·intro _
  show SRun ..
  cases ho
  exact r_ret (ret_of (.inr rfl) (.v rfl .n) (by decide))
theorem g_ref08_Fine_ok {p_0 : (List Task)} {p_1 : Yard} {out : (Bool)} (ho : g_ref08_Fine p_0 p_1 = some out) : Fun ktab 15 [.val (rSlice rTask) p_0, .val rYard p_1] [.val rBool (out)] := by
 refine fun_of (F := Try.f15) (by rfl) (by rfl) (by rfl) (fun C hC => ?_)
 delta g_ref08_Fine at ho
 refine rr <| bx rfl <| sgb <| nq <| rr <| fa F26_2 fk_Yard_2 (by decide) rfl <| ld U24 rfl <| ln S24 rfl rfl rfl (.t rfl) <| sg rfl <| nq <| r_seq <| r_seq ?_
 obtain ⟨c6, hc6, ho⟩ := bnd ho
 refine r_cut (τ := (Bool)) (G := Unit) (fun t => (.normal, fun _ => ([(0, .val (rSlice rTask) (p_0)), (3, .val (rPtr rYard) (p_1)), (5, .val (rInt .i64) ((lenI p_1.2.2.1))), (33, .val rBool (t))], []))) (t := c6) ?_ ?_
 ·have ho := hc6
  clear hc6
  refine r_region <| mv rfl ?_
  obtain ⟨y7, hy7, ho⟩ := bnd ho
  refine s_calll (g_ref08_in_ok hy7) (.v flat_bool .n) rfl (.n rfl) rfl rfl rfl .f (.c (.o (.t rfl)) (.c (.o (.i (by decide) (by decide))) (.c (.o (.i (by decide) (by decide))) .n))) ?_
  show SOps ..
  refine s_not (.n rfl) rfl rfl (.t rfl) <| mv rfl ?_
  rcases Bool.eq_false_or_eq_true ((!y7)) with hb8 | hb8
  ·have ho := cnd1 ho hb8
   refine skg (gf1 hb8) rfl rfl <| skg (gf1 hb8) rfl rfl <| skg (gf1 hb8) rfl rfl <| skg (gf1 hb8) rfl rfl <| skg (gf1 hb8) rfl rfl <| pk1 hb8 rfl .b <| mv rfl <| skg rfl rfl rfl <| skg rfl rfl rfl <| skg rfl rfl rfl <| skg rfl rfl rfl <| pt rfl .b <| mv rfl <| skg rfl rfl rfl <| skg rfl rfl rfl <| skg rfl rfl rfl <| pt rfl .b ?_
   cases ho
   exact s_nil fun _ _ s => fz () s ⟨rfl, rfl, rfl, rfl, trivial⟩ rfl
  ·have ho := cnd0 ho hb8
   refine s_fa F26_0 fk_Yard_0 (by decide) (.g rfl rfl (gf0 hb8)) rfl rfl (.t rfl) <| ldg U23 (gf0 hb8) rfl rfl rfl <| s_len S23 (.g rfl rfl (gf0 hb8)) rfl rfl rfl rfl rfl (.t rfl) <| mvg (gf0 hb8) rfl rfl rfl <| s_cmp (.g rfl rfl (gf0 hb8)) rfl rfl (.t rfl) (.t rfl) .neq <| pk0 hb8 rfl (.t rfl) <| mv rfl ?_
   rcases Bool.eq_false_or_eq_true (((lenI p_1.1) != (lenI p_1.2.2.1))) with hb9 | hb9
   ·have ho := cnd1 ho hb9
    refine skg (gf1 hb9) rfl rfl <| skg (gf1 hb9) rfl rfl <| skg (gf1 hb9) rfl rfl <| skg (gf1 hb9) rfl rfl <| pk1 hb9 rfl .b <| mv rfl <| skg rfl rfl rfl <| skg rfl rfl rfl <| skg rfl rfl rfl <| pt rfl .b ?_
    cases ho
    exact s_nil fun _ _ s => fz () s ⟨rfl, rfl, rfl, rfl, trivial⟩ rfl
   ·have ho := cnd0 ho hb9
    refine s_fa F26_1 fk_Yard_1 (by decide) (.g rfl rfl (gf0 hb9)) rfl rfl (.t rfl) <| ldg U3 (gf0 hb9) rfl rfl rfl ?_
    obtain ⟨y10, hy10, ho⟩ := bnd ho
    refine s_calll (g_ref08_in_ok hy10) (.v flat_bool .n) rfl (.g rfl rfl (gf0 hb9)) rfl rfl rfl .f (.c (.o (.t rfl)) (.c (.o (.i (by decide) (by decide))) (.c (.o (.i (by decide) (by decide))) .n))) ?_
    show SOps ..
    refine s_not (.g rfl rfl (gf0 hb9)) rfl rfl (.t rfl) <| pk0 hb9 rfl (.t rfl) <| mv rfl ?_
    rcases Bool.eq_false_or_eq_true ((!y10)) with hb11 | hb11
    ·have ho := cnd1 ho hb11
     refine skg (gf1 hb11) rfl rfl <| skg (gf1 hb11) rfl rfl <| skg (gf1 hb11) rfl rfl <| pk1 hb11 rfl .b ?_
     cases ho
     exact s_nil fun _ _ s => fz () s ⟨rfl, rfl, rfl, rfl, trivial⟩ rfl
    ·have ho := cnd0 ho hb11
     refine mvg (gf0 hb11) rfl rfl rfl <| s_len S22 (.g rfl rfl (gf0 hb11)) rfl rfl rfl rfl rfl (.t rfl) <| s_cmp (.g rfl rfl (gf0 hb11)) rfl rfl (.t rfl) (.i (by decide) (by decide)) .gtr <| pk0 hb11 rfl (.t rfl) ?_
     cases ho
     exact s_nil fun _ _ s => fz () s ⟨rfl, rfl, rfl, rfl, trivial⟩ rfl
 ·intro _
  show SRun ..
  refine ct rfl (fun hq12 => ?_) (fun hq12 => ?_)
  ·have ho := cnd1 ho hq12
   refine rr <| sgb <| nq ?_
   cases ho
   exact r_ret (ret_of (.inr rfl) (.v rfl .n) (by decide))
  ·have ho := cnd0 ho hq12
   refine kq rfl <| r_seq <| rr <| sgc (by decide) <| nq <| r_block ?_
   obtain ⟨t73, ht73, ho⟩ := bnd ho
   refine r_loop (σ := (Int)) (τ := Unit ⊕ (Bool)) (G := List AVal) (fun s g => ([(0, .val (rSlice rTask) (p_0)), (3, .val (rPtr rYard) (p_1)), (5, .val (rInt .i64) ((lenI p_1.2.2.1))), (6, .val (rInt .i64) (s))], [])) (altX (fun b => (.exit 0, fun g => ([(0, .val (rSlice rTask) (p_0)), (5, .val (rInt .i64) ((lenI p_1.2.2.1)))], []))) (fun b => (.ret, fun g => ([(4, .val rBool (b))], [])))) _ [] ht73 (fun fr h s => s.pick [] ⟨rfl, rfl, rfl, rfl, trivial⟩ rfl (by decide)) ?_ ?_ ?_
   ·intro t
    rcases t with t | t
    ·exact nx
    ·exact nr
   ·clear ho
    intro s42 g43 r74 ho
    refine r_seq <| rr <| mv rfl <| mv rfl <| cm rfl rfl .lss <| nq <| ct rfl (fun hq44 => ?_) (fun hq44 => ?_)
    ·have ho := cnd1 ho hq44
     refine kq rfl <| r_seq <| r_block <| r_seq <| rr <| fa F26_0 fk_Yard_0 (by decide) rfl <| ld U23 rfl <| mv rfl ?_
     obtain ⟨x49, hx49, ho⟩ := bnd ho
     refine ix S23 hx49 rfl rfl <| ld U29 rfl <| ln S29 rfl rfl rfl (.t rfl) <| mv rfl <| cm rfl rfl .neq <| mv rfl ?_
     rcases Bool.eq_false_or_eq_true (((lenI x49) != (lenI p_1.2.2.1))) with hb50 | hb50
     ·have ho := cnd1 ho hb50
      refine skg (gf1 hb50) rfl rfl <| skg (gf1 hb50) rfl rfl <| skg (gf1 hb50) rfl rfl <| skg (gf1 hb50) rfl rfl <| skg (gf1 hb50) rfl rfl <| skg (gf1 hb50) rfl rfl <| skg (gf1 hb50) rfl rfl <| skg (gf1 hb50) rfl rfl <| skg (gf1 hb50) rfl rfl <| pk1 hb50 rfl .b <| nq <| ct rfl (fun _ => ?_) (fun hq => by cases hq)
      refine rr <| sgb <| nq ?_
      cases ho
      exact r_ret fun _ _ s => fz [] s ⟨rfl, trivial⟩ rfl
     ·have ho := cnd0 ho hb50
      refine s_fa F26_0 fk_Yard_0 (by decide) (.g rfl rfl (gf0 hb50)) rfl rfl (.t rfl) <| ldg U23 (gf0 hb50) rfl rfl rfl <| mvg (gf0 hb50) rfl rfl rfl ?_
      obtain ⟨x52, hx52, ho⟩ := bnd ho
      refine s_idx S23 hx52 (.g rfl rfl (gf0 hb50)) rfl rfl (.t rfl) (.t rfl) <| ldg U29 (gf0 hb50) rfl rfl rfl <| mvg (gf0 hb50) rfl rfl rfl ?_
      obtain ⟨x53, hx53, ho⟩ := bnd ho
      refine s_idx S29 hx53 (.g rfl rfl (gf0 hb50)) rfl rfl (.t rfl) (.t rfl) <| ldg U3 (gf0 hb50) rfl rfl rfl <| s_cmp (.g rfl rfl (gf0 hb50)) rfl rfl (.t rfl) (.i (by decide) (by decide)) .neq <| pk0 hb50 rfl (.t rfl) <| nq <| ct rfl (fun hq54 => ?_) (fun hq54 => ?_)
      ·have ho := cnd1 ho hq54
       refine rr <| sgb <| nq ?_
       cases ho
       exact r_ret fun _ _ s => fz [] s ⟨rfl, trivial⟩ rfl
      ·have ho := cnd0 ho hq54
       refine kq rfl <| rr <| sgc (by decide) <| nq <| r_block ?_
       obtain ⟨t67, ht67, ho⟩ := bnd ho
       refine r_loop (σ := (Int)) (τ := Unit ⊕ (Bool)) (G := List AVal) (fun s g => ([(0, .val (rSlice rTask) (p_0)), (3, .val (rPtr rYard) (p_1)), (5, .val (rInt .i64) ((lenI p_1.2.2.1))), (6, .val (rInt .i64) (s42)), (7, .val (rInt .i64) (s)), (48, .val (rPtr (rSlice (rSlice (rInt .i64)))) (p_1.1)), (49, .val (rSlice (rSlice (rInt .i64))) (p_1.1)), (50, .val (rInt .i64) (s42)), (51, .val (rPtr (rSlice (rInt .i64))) (x52)), (52, .val (rSlice (rInt .i64)) (x52)), (53, .val (rInt .i64) (s42)), (54, .val (rPtr (rInt .i64)) (x53)), (55, .val (rInt .i64) (x53)), (56, .val rBool ((x53 != 0)))], [])) (altX (fun b => (.exit 2, fun g => ([(0, .val (rSlice rTask) (p_0)), (3, .val (rPtr rYard) (p_1)), (5, .val (rInt .i64) ((lenI p_1.2.2.1))), (6, .val (rInt .i64) (s42)), (48, .val (rPtr (rSlice (rSlice (rInt .i64)))) (p_1.1)), (49, .val (rSlice (rSlice (rInt .i64))) (p_1.1)), (50, .val (rInt .i64) (s42)), (51, .val (rPtr (rSlice (rInt .i64))) (x52)), (52, .val (rSlice (rInt .i64)) (x52)), (53, .val (rInt .i64) (s42)), (54, .val (rPtr (rInt .i64)) (x53)), (55, .val (rInt .i64) (x53)), (56, .val rBool ((x53 != 0)))], []))) (fun b => (.ret, fun g => ([(4, .val rBool (b))], [])))) _ [] ht67 (fun fr h s => s.pick [] ⟨rfl, rfl, rfl, rfl, rfl, rfl, rfl, rfl, rfl, rfl, rfl, rfl, rfl, rfl, trivial⟩ rfl (by decide)) ?_ ?_ ?_
       ·intro t
        rcases t with t | t
        ·exact nx
        ·exact nr
       ·clear ho
        intro s60 g61 r68 ho
        refine r_seq <| rr <| mv rfl <| mv rfl <| cm rfl rfl .lss <| nq <| ct rfl (fun hq62 => ?_) (fun hq62 => ?_)
        ·have ho := cnd1 ho hq62
         refine kq rfl <| r_seq <| r_block <| rr <| fa F26_0 fk_Yard_0 (by decide) rfl <| ld U23 rfl <| mv rfl ?_
         obtain ⟨x63, hx63, ho⟩ := bnd ho
         refine ix S23 hx63 rfl rfl <| ld U29 rfl <| mv rfl ?_
         obtain ⟨x64, hx64, ho⟩ := bnd ho
         refine ix S29 hx64 rfl rfl <| ld U3 rfl ?_
         obtain ⟨y65, hy65, ho⟩ := bnd ho
         refine s_calll (g_ref08_in_ok hy65) (.v flat_bool .n) rfl (.n rfl) rfl rfl rfl .f (.c (.o (.t rfl)) (.c (.o (.i (by decide) (by decide))) (.c (.o (.i (by decide) (by decide))) .n))) ?_
         show SOps ..
         refine s_not (.n rfl) rfl rfl (.t rfl) <| nq <| ct rfl (fun hq66 => ?_) (fun hq66 => ?_)
         ·have ho := cnd1 ho hq66
          refine rr <| sgb <| nq ?_
          cases ho
          exact r_ret fun _ _ s => fz [] s ⟨rfl, trivial⟩ rfl
         ·have ho := cnd0 ho hq66
          refine kq rfl <| r_region <| mv rfl <| arc rfl (by decide) .add <| sg rfl ?_
          cases ho
          exact s_nil fun _ _ s => fz [] s ⟨rfl, rfl, rfl, rfl, rfl, rfl, rfl, rfl, rfl, rfl, rfl, rfl, rfl, rfl, trivial⟩ rfl
        ·have ho := cnd0 ho hq62
         cases ho
         exact r_exit fun _ _ s => fz [] s ⟨rfl, rfl, rfl, rfl, rfl, rfl, rfl, rfl, rfl, rfl, rfl, rfl, rfl, trivial⟩ rfl
       ·clear ht67
        rcases t67 with b69 | b70
        ·have ho := alt_l ho
         intro g71
         show ∀ fr h, St _ [(0, .val (rSlice rTask) (p_0)), (3, .val (rPtr rYard) (p_1)), (5, .val (rInt .i64) ((lenI p_1.2.2.1))), (6, .val (rInt .i64) (s42)), (48, .val (rPtr (rSlice (rSlice (rInt .i64)))) (p_1.1)), (49, .val (rSlice (rSlice (rInt .i64))) (p_1.1)), (50, .val (rInt .i64) (s42)), (51, .val (rPtr (rSlice (rInt .i64))) (x52)), (52, .val (rSlice (rInt .i64)) (x52)), (53, .val (rInt .i64) (s42)), (54, .val (rPtr (rInt .i64)) (x53)), (55, .val (rInt .i64) (x53)), (56, .val rBool ((x53 != 0)))] [] fr h → _
         show SRun ..
         refine r_region <| mv rfl <| arc rfl (by decide) .add <| sg rfl ?_
         cases ho
         exact s_nil fun _ _ s => fz [] s ⟨rfl, rfl, rfl, rfl, trivial⟩ rfl
        ·have ho := alt_r ho
         intro g72
         show ∀ fr h, St _ [(4, .val rBool (b70))] [] fr h → _
         cases ho
         exact id fun _ _ s => fz [] s ⟨rfl, trivial⟩ rfl
    ·have ho := cnd0 ho hq44
     cases ho
     exact r_exit fun _ _ s => fz [] s ⟨rfl, rfl, trivial⟩ rfl
   ·clear ht73
    rcases t73 with b75 | b76
    ·have ho := alt_l ho
     intro g77
     show ∀ fr h, St _ [(0, .val (rSlice rTask) (p_0)), (5, .val (rInt .i64) ((lenI p_1.2.2.1)))] [] fr h → _
     show SRun ..
     refine r_seq <| rr <| sgc (by decide) <| nq <| r_block ?_
     obtain ⟨t138, ht138, ho⟩ := bnd ho
     refine r_loop (σ := (Int)) (τ := Unit ⊕ (Bool)) (G := List AVal) (fun s g => ([(0, .val (rSlice rTask) (p_0)), (5, .val (rInt .i64) ((lenI p_1.2.2.1))), (8, .val (rInt .i64) (s))], [])) (altX (fun b => (.exit 4, fun g => ([], []))) (fun b => (.ret, fun g => ([(4, .val rBool (b))], [])))) _ [] ht138 (fun fr h s => s.pick [] ⟨rfl, rfl, rfl, trivial⟩ rfl (by decide)) ?_ ?_ ?_
     ·intro t
      rcases t with t | t
      ·exact nx
      ·exact nr
     ·clear ho
      intro s107 g108 r139 ho
      refine r_seq <| rr <| mv rfl <| mv rfl <| ln S22 rfl rfl rfl (.t rfl) <| cm rfl rfl .lss <| nq <| ct rfl (fun hq109 => ?_) (fun hq109 => ?_)
      ·have ho := cnd1 ho hq109
       refine kq rfl <| r_seq <| r_block <| rr <| mv rfl <| mv rfl ?_
       obtain ⟨x110, hx110, ho⟩ := bnd ho
       refine ix S22 hx110 rfl rfl <| ld U87 rfl <| s_alloc (zv := .agg [.int .i64 0, .int .i64 0, .int .i64 0, .int .i64 0]) (es := [.val (rInt .i64) (0), .val (rInt .i64) (0), .val (rInt .i64) (0), .val (rInt .i64) (0)]) (by kernel_rfl) (fun _ => (okint (okint (okint (okint okn))))) rfl (.n rfl) rfl rfl ?_
       intro b111
       refine s_storebs 0 U87 rfl (c1 rfl (c1 rfl (c1 rfl (c1 rfl cells_unit)))) (by rfl) (.n rfl) rfl rfl (.t rfl) (.t rfl) (by rfl) <| s_st (st_freezeb (R := rTask) (a := x110) 0 [9] (c1 rfl (c1 rfl (c1 rfl (c1 rfl cells_unit)))) rfl rfl ⟨rfl, trivial⟩) ?_
       refine nq <| r_seq ?_
       refine r_draw [] (by kernel_rfl) ?_
       refine fa F87_0 fk_Task_0 (by decide) rfl <| ld U3 rfl <| mv rfl <| arc rfl (by decide) .sub ?_
       obtain ⟨y122, hy122, ho⟩ := bnd ho
       refine s_calll (g_ref08_in_ok hy122) (.v flat_bool .n) rfl (.n rfl) rfl rfl rfl .f (.c (.o (.t rfl)) (.c (.o (.i (by decide) (by decide))) (.c (.o (.t rfl)) .n))) ?_
       show SOps ..
       refine s_not (.n rfl) rfl rfl (.t rfl) <| mv rfl ?_
       rcases Bool.eq_false_or_eq_true ((!y122)) with hb123 | hb123
       ·have ho := cnd1 ho hb123
        refine skg (gf1 hb123) rfl rfl <| skg (gf1 hb123) rfl rfl <| skg (gf1 hb123) rfl rfl <| skg (gf1 hb123) rfl rfl <| skg (gf1 hb123) rfl rfl <| skg (gf1 hb123) rfl rfl <| pk1 hb123 rfl .b <| mv rfl <| skg rfl rfl rfl <| skg rfl rfl rfl <| skg rfl rfl rfl <| pt rfl .b <| mv rfl <| skg rfl rfl rfl <| skg rfl rfl rfl <| skg rfl rfl rfl <| skg rfl rfl rfl <| skg rfl rfl rfl <| pt rfl .b <| mv rfl <| skg rfl rfl rfl ?_
        refine skg rfl rfl rfl <| skg rfl rfl rfl <| pt rfl .b <| mv rfl <| skg rfl rfl rfl <| skg rfl rfl rfl <| skg rfl rfl rfl <| sku rfl rfl <| sku rfl rfl <| sku rfl rfl <| sku rfl rfl <| sku rfl rfl <| sku rfl rfl <| sku rfl rfl <| sku rfl rfl <| sku rfl rfl <| skg rfl rfl rfl <| pt rfl .b <| nq <| ct rfl (fun _ => ?_) (fun hq => by cases hq)
        refine rr <| sgb <| nq ?_
        cases ho
        exact r_ret fun _ _ s => fz [] s ⟨rfl, trivial⟩ rfl
       ·have ho := cnd0 ho hb123
        refine s_fa F87_1 fk_Task_1 (by decide) (.g rfl rfl (gf0 hb123)) rfl rfl (.t rfl) <| ldg U3 (gf0 hb123) rfl rfl rfl <| mvg (gf0 hb123) rfl rfl rfl <| s_ar (.g rfl rfl (gf0 hb123)) rfl rfl (.t rfl) (.i (by decide) (by decide)) .sub ?_
        obtain ⟨y125, hy125, ho⟩ := bnd ho
        refine s_calll (g_ref08_in_ok hy125) (.v flat_bool .n) rfl (.g rfl rfl (gf0 hb123)) rfl rfl rfl .f (.c (.o (.t rfl)) (.c (.o (.i (by decide) (by decide))) (.c (.o (.t rfl)) .n))) ?_
        show SOps ..
        refine s_not (.g rfl rfl (gf0 hb123)) rfl rfl (.t rfl) <| pk0 hb123 rfl (.t rfl) <| mv rfl ?_
        rcases Bool.eq_false_or_eq_true ((!y125)) with hb126 | hb126
        ·have ho := cnd1 ho hb126
         refine skg (gf1 hb126) rfl rfl <| skg (gf1 hb126) rfl rfl <| skg (gf1 hb126) rfl rfl <| pk1 hb126 rfl .b <| mv rfl <| skg rfl rfl rfl <| skg rfl rfl rfl <| skg rfl rfl rfl <| skg rfl rfl rfl <| skg rfl rfl rfl <| pt rfl .b <| mv rfl <| skg rfl rfl rfl <| skg rfl rfl rfl <| skg rfl rfl rfl <| pt rfl .b <| mv rfl <| skg rfl rfl rfl <| skg rfl rfl rfl <| skg rfl rfl rfl <| sku rfl rfl <| sku rfl rfl <| sku rfl rfl ?_
         refine sku rfl rfl <| sku rfl rfl <| sku rfl rfl <| sku rfl rfl <| sku rfl rfl <| sku rfl rfl <| skg rfl rfl rfl <| pt rfl .b <| nq <| ct rfl (fun _ => ?_) (fun hq => by cases hq)
         refine rr <| sgb <| nq ?_
         cases ho
         exact r_ret fun _ _ s => fz [] s ⟨rfl, trivial⟩ rfl
        ·have ho := cnd0 ho hb126
         refine s_fa F87_2 fk_Task_2 (by decide) (.g rfl rfl (gf0 hb126)) rfl rfl (.t rfl) <| ldg U3 (gf0 hb126) rfl rfl rfl <| s_cmp (.g rfl rfl (gf0 hb126)) rfl rfl (.t rfl) (.i (by decide) (by decide)) .lss <| pk0 hb126 rfl (.t rfl) <| mv rfl ?_
         rcases Bool.eq_false_or_eq_true ((decide (x110.2.2.1 < 0))) with hb128 | hb128
         ·have ho := cnd1 ho hb128
          refine skg (gf1 hb128) rfl rfl <| skg (gf1 hb128) rfl rfl <| skg (gf1 hb128) rfl rfl <| skg (gf1 hb128) rfl rfl <| skg (gf1 hb128) rfl rfl <| pk1 hb128 rfl .b <| mv rfl <| skg rfl rfl rfl <| skg rfl rfl rfl <| skg rfl rfl rfl <| pt rfl .b <| mv rfl <| skg rfl rfl rfl <| skg rfl rfl rfl <| skg rfl rfl rfl <| sku rfl rfl <| sku rfl rfl <| sku rfl rfl <| sku rfl rfl <| sku rfl rfl <| sku rfl rfl <| sku rfl rfl ?_
          refine sku rfl rfl <| sku rfl rfl <| skg rfl rfl rfl <| pt rfl .b <| nq <| ct rfl (fun _ => ?_) (fun hq => by cases hq)
          refine rr <| sgb <| nq ?_
          cases ho
          exact r_ret fun _ _ s => fz [] s ⟨rfl, trivial⟩ rfl
         ·have ho := cnd0 ho hb128
          refine s_fa F87_2 fk_Task_2 (by decide) (.g rfl rfl (gf0 hb128)) rfl rfl (.t rfl) <| ldg U3 (gf0 hb128) rfl rfl rfl <| s_fa F87_3 fk_Task_3 (by decide) (.g rfl rfl (gf0 hb128)) rfl rfl (.t rfl) <| ldg U3 (gf0 hb128) rfl rfl rfl <| s_cmp (.g rfl rfl (gf0 hb128)) rfl rfl (.t rfl) (.t rfl) .gtr <| pk0 hb128 rfl (.t rfl) <| mv rfl ?_
          rcases Bool.eq_false_or_eq_true ((decide (x110.2.2.1 > x110.2.2.2.1))) with hb130 | hb130
          ·have ho := cnd1 ho hb130
           refine skg (gf1 hb130) rfl rfl <| skg (gf1 hb130) rfl rfl <| skg (gf1 hb130) rfl rfl <| pk1 hb130 rfl .b <| mv rfl <| skg rfl rfl rfl <| skg rfl rfl rfl <| skg rfl rfl rfl <| sku rfl rfl <| sku rfl rfl <| sku rfl rfl <| sku rfl rfl <| sku rfl rfl <| sku rfl rfl <| sku rfl rfl <| sku rfl rfl <| sku rfl rfl <| skg rfl rfl rfl <| pt rfl .b <| nq <| ct rfl (fun _ => ?_) (fun hq => by cases hq)
           refine rr <| sgb <| nq ?_
           cases ho
           exact r_ret fun _ _ s => fz [] s ⟨rfl, trivial⟩ rfl
          ·have ho := cnd0 ho hb130
           refine s_fa F87_3 fk_Task_3 (by decide) (.g rfl rfl (gf0 hb130)) rfl rfl (.t rfl) <| ldg U3 (gf0 hb130) rfl rfl rfl <| s_cmp (.g rfl rfl (gf0 hb130)) rfl rfl (.t rfl) (.i (by decide) (by decide)) .gtr <| pk0 hb130 rfl (.t rfl) <| mv rfl ?_
           rcases Bool.eq_false_or_eq_true ((decide (x110.2.2.2.1 > 200000))) with hb132 | hb132
           ·have ho := cnd1 ho hb132
            refine skg (gf1 hb132) rfl rfl <| skg (gf1 hb132) rfl rfl <| skg (gf1 hb132) rfl rfl <| sku rfl rfl <| sku rfl rfl <| sku rfl rfl <| sku rfl rfl <| sku rfl rfl <| sku rfl rfl <| sku rfl rfl <| sku rfl rfl <| sku rfl rfl <| skg (gf1 hb132) rfl rfl <| pk1 hb132 rfl .b <| nq <| ct rfl (fun _ => ?_) (fun hq => by cases hq)
            refine rr <| sgb <| nq ?_
            cases ho
            exact r_ret fun _ _ s => fz [] s ⟨rfl, trivial⟩ rfl
           ·have ho := cnd0 ho hb132
            refine mvg (gf0 hb132) rfl rfl rfl <| s_cmp (.g rfl rfl (gf0 hb132)) rfl rfl (.t rfl) (.i (by decide) (by decide)) .gtr <| mvg (gf0 hb132) rfl rfl rfl ?_
            rcases Bool.eq_false_or_eq_true ((decide (s107 > 0))) with hb134 | hb134
            ·have ho := cnd1 ho hb134
             refine s_fa F87_2 fk_Task_2 (by decide) (.g rfl rfl (gt1 hb134)) rfl rfl (.t rfl) <| ldg U3 (gt1 hb134) rfl rfl rfl <| mvg (gt1 hb134) rfl rfl rfl <| mvg (gt1 hb134) rfl rfl rfl <| s_ar (.g rfl rfl (gt1 hb134)) rfl rfl (.t rfl) (.i (by decide) (by decide)) .sub ?_
             obtain ⟨x135, hx135, ho⟩ := bnd ho
             refine s_idx S22 hx135 (.g rfl rfl (gt1 hb134)) rfl rfl (.t rfl) (.t rfl) <| s_fa F87_2 fk_Task_2 (by decide) (.g rfl rfl (gt1 hb134)) rfl rfl (.t rfl) <| ldg U3 (gt1 hb134) rfl rfl rfl <| s_cmp (.g rfl rfl (gt1 hb134)) rfl rfl (.t rfl) (.t rfl) .lss <| s_pk1 hb134 (.g rfl rfl (gf0 hb132)) rfl rfl (.t rfl) (.t rfl) <| pk0 hb132 rfl (.t rfl) <| nq <| ct rfl (fun hq136 => ?_) (fun hq136 => ?_)
             ·have ho := cnd1 ho hq136
              refine rr <| sgb <| nq ?_
              cases ho
              exact r_ret fun _ _ s => fz [] s ⟨rfl, trivial⟩ rfl
             ·have ho := cnd0 ho hq136
              refine kq rfl <| r_region <| mv rfl <| arc rfl (by decide) .add <| sg rfl ?_
              cases ho
              exact s_nil fun _ _ s => fz [] s ⟨rfl, rfl, rfl, trivial⟩ rfl
            ·have ho := cnd0 ho hb134
             refine skg (gt0 hb134) rfl rfl <| skg (gt0 hb134) rfl rfl <| skg (gt0 hb134) rfl rfl <| skg (gt0 hb134) rfl rfl <| skg (gt0 hb134) rfl rfl <| skg (gt0 hb134) rfl rfl <| skg (gt0 hb134) rfl rfl <| skg (gt0 hb134) rfl rfl <| skg (gt0 hb134) rfl rfl <| s_pk0 hb134 (.g rfl rfl (gf0 hb132)) rfl rfl (.t rfl) .b <| pk0 hb132 rfl (.t rfl) <| nq <| ct rfl (fun hq => by cases hq) (fun _ => ?_)
             refine kq rfl <| r_region <| mv rfl <| arc rfl (by decide) .add <| sg rfl ?_
             cases ho
             exact s_nil fun _ _ s => fz [] s ⟨rfl, rfl, rfl, trivial⟩ rfl
      ·have ho := cnd0 ho hq109
       cases ho
       exact r_exit fun _ _ s => fz [] s trivial rfl
     ·clear ht138
      rcases t138 with b140 | b141
      ·have ho := alt_l ho
       intro g142
       show ∀ fr h, St _ [] [] fr h → _
       show SRun ..
       refine rr <| sgb <| nq ?_
       cases ho
       exact r_ret (ret_of (.inr rfl) (.v rfl .n) (by decide))
      ·have ho := alt_r ho
       intro g143
       show ∀ fr h, St _ [(4, .val rBool (b141))] [] fr h → _
       cases ho
       exact id (ret_of (.inr rfl) (.v rfl .n) (by decide))
    ·have ho := alt_r ho
     intro g144
     show ∀ fr h, St _ [(4, .val rBool (b76))] [] fr h → _
     cases ho
     exact id (ret_of (.inr rfl) (.v rfl .n) (by decide))
theorem g_law08_DutyShorter_ok {p_0 : (List Task)} {p_1 : Yard} {p_2 : Int} {out : (Bool)} (ho : g_law08_DutyShorter p_0 p_1 p_2 = some out) : Fun ktab 4 [.val (rSlice rTask) p_0, .val rYard p_1, .val (rInt .i64) p_2] [.val rBool (out)] := by
 refine fun_of (F := Try.f4) (by rfl) (by rfl) (by rfl) (fun C hC => ?_)
 delta g_law08_DutyShorter at ho
 refine rr <| s_boxo (R := rYard) (c1 rfl (c1 rfl (c1 rfl cells_unit))) (.n rfl) rfl rfl (.t rfl) ?_
 intro b1
 refine sgb <| nq <| r_seq <| r_seq ?_
 obtain ⟨c9, hc9, ho⟩ := bnd ho
 refine r_cut (τ := (Bool)) (G := Unit) (fun t => (.normal, fun _ => ([(0, .val (rSlice rTask) (p_0)), (2, .val (rInt .i64) (p_2)), (4, .raw (.ptr b1 0)), (40, .val rBool (t))], [(.ptr b1 0, .box [.val (rSlice (rSlice (rInt .i64))) (p_1.1), .val (rInt .i64) (p_1.2.1), .val (rSlice rBool) (p_1.2.2.1)])]))) (t := c9) ?_ ?_
 ·have ho := hc9
  clear hc9
  refine r_region <| mv rfl <| s_loadbs (R := rYard) (a := p_1) 0 (fun _ h => by cases h <;> rfl) U26 (c1 rfl (c1 rfl (c1 rfl cells_unit))) (.n rfl) rfl rfl (.t rfl) rfl ?_
  obtain ⟨y10, hy10, ho⟩ := bnd ho
  refine s_calll (g_law08_few_ok hy10) (.v flat_bool .n) rfl (.n rfl) rfl rfl rfl .f (.c (.o (.t rfl)) (.c (.o (.t rfl)) (.c (.o (.i (by decide) (by decide))) .n))) ?_
  show SOps ..
  refine s_not (.n rfl) rfl rfl (.t rfl) <| mv rfl ?_
  rcases Bool.eq_false_or_eq_true ((!y10)) with hb11 | hb11
  ·have ho := cnd1 ho hb11
   refine skg (gf1 hb11) rfl rfl <| skg (gf1 hb11) rfl rfl <| skg (gf1 hb11) rfl rfl <| skg (gf1 hb11) rfl rfl <| pk1 hb11 rfl .b <| mv rfl <| skg rfl rfl rfl <| skg rfl rfl rfl <| pt rfl .b <| mv rfl <| skg rfl rfl rfl <| skg rfl rfl rfl <| skg rfl rfl rfl <| skg rfl rfl rfl <| pt rfl .b <| mv rfl <| skg rfl rfl rfl <| skg rfl rfl rfl <| skg rfl rfl rfl <| pt rfl .b ?_
   cases ho
   exact s_nil (fun fr h s => And.intro rfl (Exists.intro () (s.pick [0] ⟨rfl, rfl, rfl, rfl, trivial⟩ rfl (by decide))))
  ·have ho := cnd0 ho hb11
   refine mvg (gf0 hb11) rfl rfl rfl <| s_loadbs (R := rYard) (a := p_1) 0 (fun _ h => by cases h <;> rfl) U26 (c1 rfl (c1 rfl (c1 rfl cells_unit))) (.g rfl rfl (gf0 hb11)) rfl rfl (.t rfl) rfl ?_
   obtain ⟨y12, hy12, ho⟩ := bnd ho
   refine s_calll (g_ref08_Fine_ok hy12) (.v flat_bool .n) rfl (.g rfl rfl (gf0 hb11)) rfl rfl rfl .f (.c (.o (.t rfl)) (.c (.o (.t rfl)) .n)) ?_
   show SOps ..
   refine s_not (.g rfl rfl (gf0 hb11)) rfl rfl (.t rfl) <| pk0 hb11 rfl (.t rfl) <| mv rfl ?_
   rcases Bool.eq_false_or_eq_true ((!y12)) with hb13 | hb13
   ·have ho := cnd1 ho hb13
    refine skg (gf1 hb13) rfl rfl <| skg (gf1 hb13) rfl rfl <| pk1 hb13 rfl .b <| mv rfl <| skg rfl rfl rfl <| skg rfl rfl rfl <| skg rfl rfl rfl <| skg rfl rfl rfl <| pt rfl .b <| mv rfl <| skg rfl rfl rfl <| skg rfl rfl rfl <| skg rfl rfl rfl <| pt rfl .b ?_
    cases ho
    exact s_nil (fun fr h s => And.intro rfl (Exists.intro () (s.pick [0] ⟨rfl, rfl, rfl, rfl, trivial⟩ rfl (by decide))))
   ·have ho := cnd0 ho hb13
    refine mvg (gf0 hb13) rfl rfl rfl <| s_cmp (.g rfl rfl (gf0 hb13)) rfl rfl (.t rfl) (.i (by decide) (by decide)) .lss <| pk0 hb13 rfl (.t rfl) <| mv rfl ?_
    rcases Bool.eq_false_or_eq_true ((decide (p_2 < 0))) with hb14 | hb14
    ·have ho := cnd1 ho hb14
     refine skg (gf1 hb14) rfl rfl <| skg (gf1 hb14) rfl rfl <| skg (gf1 hb14) rfl rfl <| skg (gf1 hb14) rfl rfl <| pk1 hb14 rfl .b <| mv rfl <| skg rfl rfl rfl <| skg rfl rfl rfl <| skg rfl rfl rfl <| pt rfl .b ?_
     cases ho
     exact s_nil (fun fr h s => And.intro rfl (Exists.intro () (s.pick [0] ⟨rfl, rfl, rfl, rfl, trivial⟩ rfl (by decide))))
    ·have ho := cnd0 ho hb14
     refine mvg (gf0 hb14) rfl rfl rfl <| s_faraw F26_1 (by decide) (.g rfl rfl (gf0 hb14)) rfl rfl (.t rfl) <| s_loadb 0 (fun _ h => by cases h <;> rfl) (U3).agg rfl (.g rfl rfl (gf0 hb14)) rfl rfl (.t rfl) rfl <| s_cmp (.g rfl rfl (gf0 hb14)) rfl rfl (.t rfl) (.t rfl) .gtr <| pk0 hb14 rfl (.t rfl) <| mv rfl ?_
     rcases Bool.eq_false_or_eq_true ((decide (p_2 > p_1.2.1))) with hb15 | hb15
     ·have ho := cnd1 ho hb15
      refine skg (gf1 hb15) rfl rfl <| skg (gf1 hb15) rfl rfl <| skg (gf1 hb15) rfl rfl <| pk1 hb15 rfl .b ?_
      cases ho
      exact s_nil (fun fr h s => And.intro rfl (Exists.intro () (s.pick [0] ⟨rfl, rfl, rfl, rfl, trivial⟩ rfl (by decide))))
     ·have ho := cnd0 ho hb15
      refine mvg (gf0 hb15) rfl rfl rfl <| s_len S22 (.g rfl rfl (gf0 hb15)) rfl rfl rfl rfl rfl (.t rfl) <| s_cmp (.g rfl rfl (gf0 hb15)) rfl rfl (.t rfl) (.i (by decide) (by decide)) .eql <| pk0 hb15 rfl (.t rfl) ?_
      cases ho
      exact s_nil (fun fr h s => And.intro rfl (Exists.intro () (s.pick [0] ⟨rfl, rfl, rfl, rfl, trivial⟩ rfl (by decide))))
 ·intro _
  show SRun ..
  refine ct rfl (fun hq16 => ?_) (fun hq16 => ?_)
  ·have ho := cnd1 ho hq16
   refine rr ?_
   obtain ⟨y17, hy17, ho⟩ := bnd ho
   refine s_calll (g_law08_known_ok hy17) (.v flat_bool .n) rfl (.n rfl) rfl rfl rfl .f .n ?_
   show SOps ..
   refine sg rfl <| nq ?_
   cases ho
   exact r_ret (ret_of (.inr rfl) (.v rfl .n) (by decide))
  ·have ho := cnd0 ho hq16
   refine kq rfl <| rr <| mv rfl <| s_loadbs (R := rYard) (a := p_1) 0 (fun _ h => by cases h <;> rfl) U26 (c1 rfl (c1 rfl (c1 rfl cells_unit))) (.n rfl) rfl rfl (.t rfl) rfl ?_
   obtain ⟨y18, hy18, ho⟩ := bnd ho
   refine s_call (pre := []) (post := []) (vs := []) (g_duty_Cars_ok hy18) rfl (.n rfl) rfl rfl rfl .f (.c (.t rfl) (.c (.t rfl) .n)) ?_
   intro v19
   show SOps ..
   refine mv rfl <| ext rfl rfl <| ext rfl rfl <| ext rfl rfl <| s_alloc (zv := .agg [.nilslice, .nilslice]) (es := [.val (rSlice (rInt .i64)) ([]), .val (rSlice (rInt .i64)) ([])]) (by kernel_rfl) (fun _ => (oknil (oknil okn))) rfl (.n rfl) rfl rfl ?_
   intro b21
   refine sg rfl <| s_storebs 0 U31 rfl (c1 rfl (c1 rfl cells_unit)) (by rfl) (.n rfl) rfl rfl (.t rfl) (.t rfl) (by rfl) <| s_st (st_freezeb (R := rDutyProof) (a := y18.2.1) 0 [8] (c1 rfl (c1 rfl cells_unit)) rfl rfl ⟨rfl, trivial⟩) ?_
   refine sg rfl <| nq <| r_seq ?_
   refine r_draw [5] (by kernel_rfl) ?_
   refine mv rfl <| mv rfl <| ln S22 rfl rfl rfl (.t rfl) <| arc rfl (by decide) .sub ?_
   obtain ⟨x23, hx23, ho⟩ := bnd ho
   refine s_slO S22 hx23 (.n rfl) rfl rfl (.t rfl) .n (.s (.t rfl)) <| s_loadbs (R := rYard) (a := p_1) 1 (fun _ h => by cases h <;> rfl) U26 (c1 rfl (c1 rfl (c1 rfl cells_unit))) (.n rfl) rfl rfl (.t rfl) rfl ?_
   obtain ⟨y24, hy24, ho⟩ := bnd ho
   refine s_call (pre := []) (post := []) (vs := []) (g_duty_Cars_ok hy24) rfl (.n rfl) rfl rfl rfl .f (.c (.t rfl) (.c (.t rfl) .n)) ?_
   intro v25
   show SOps ..
   refine mv rfl <| ext rfl rfl <| ext rfl rfl <| ext rfl rfl <| s_alloc (zv := .agg [.nilslice, .nilslice]) (es := [.val (rSlice (rInt .i64)) ([]), .val (rSlice (rInt .i64)) ([])]) (by kernel_rfl) (fun _ => (oknil (oknil okn))) rfl (.n rfl) rfl rfl ?_
   intro b27
   refine sg rfl <| s_storebs 0 U31 rfl (c1 rfl (c1 rfl cells_unit)) (by rfl) (.n rfl) rfl rfl (.t rfl) (.t rfl) (by rfl) <| s_st (st_freezeb (R := rDutyProof) (a := y24.2.1) 0 [11] (c1 rfl (c1 rfl cells_unit)) rfl rfl ⟨rfl, trivial⟩) ?_
   refine sg rfl <| nq <| rr <| faw F26_1 (by decide) rfl <| s_loadb 2 (fun _ h => by cases h <;> rfl) (U3).agg rfl (.n rfl) rfl rfl (.t rfl) rfl <| mv rfl <| ar rfl rfl .sub <| faw F26_1 (by decide) rfl <| s_storeb 2 (U3).sz rfl (by exact Nat.le_of_ble_eq_true rfl) (.n rfl) rfl rfl (.t rfl) (.t rfl) rfl rfl <| nq <| rr <| mv rfl <| s_loadbs (R := rYard) (a := (p_1.1, (w64 (p_1.2.1 - p_2)), p_1.2.2.1, ())) 2 (fun _ h => by cases h <;> rfl) U26 (c1 rfl (c1 rfl (c1 rfl cells_unit))) (.n rfl) rfl rfl (.t rfl) rfl ?_
   obtain ⟨y29, hy29, ho⟩ := bnd ho
   refine s_call (pre := []) (post := []) (vs := []) (g_duty_Cars_ok hy29) rfl (.n rfl) rfl rfl rfl .f (.c (.t rfl) (.c (.t rfl) .n)) ?_
   intro v30
   show SOps ..
   refine mv rfl <| ext rfl rfl <| ext rfl rfl <| ext rfl rfl <| s_alloc (zv := .agg [.nilslice, .nilslice]) (es := [.val (rSlice (rInt .i64)) ([]), .val (rSlice (rInt .i64)) ([])]) (by kernel_rfl) (fun _ => (oknil (oknil okn))) rfl (.n rfl) rfl rfl ?_
   intro b32
   refine sg rfl <| s_storebs 0 U31 rfl (c1 rfl (c1 rfl cells_unit)) (by rfl) (.n rfl) rfl rfl (.t rfl) (.t rfl) (by rfl) <| s_st (st_freezeb (R := rDutyProof) (a := y29.2.1) 0 [14] (c1 rfl (c1 rfl cells_unit)) rfl rfl ⟨rfl, trivial⟩) ?_
   refine sg rfl <| nq <| r_seq ?_
   obtain ⟨c41, hc41, ho⟩ := bnd ho
   refine r_cut (τ := (Bool)) (G := Unit) (fun t => (.normal, fun _ => ([(6, .val rBool (t))], [(v30, .row (rSlice (rInt .i64)) (y29.1)), (v25, .row (rSlice (rInt .i64)) (y24.1)), (v19, .row (rSlice (rInt .i64)) (y18.1)), (.ptr b1 0, .box [.val (rSlice (rSlice (rInt .i64))) (p_1.1), .val (rInt .i64) ((w64 (p_1.2.1 - p_2))), .val (rSlice rBool) (p_1.2.2.1)])]))) (t := c41) ?_ ?_
   ·have ho := hc41
    clear hc41
    refine r_region <| mv rfl <| cmc rfl (by decide) .eql <| mv rfl ?_
    rcases Bool.eq_false_or_eq_true ((y18.2.2 == 0)) with hb42 | hb42
    ·have ho := cnd1 ho hb42
     refine mvg (gt1 hb42) rfl rfl rfl <| s_cmp (.g rfl rfl (gt1 hb42)) rfl rfl (.t rfl) (.i (by decide) (by decide)) .eql <| pk1 hb42 rfl (.t rfl) <| mv rfl ?_
     rcases Bool.eq_false_or_eq_true ((y24.2.2 == 0)) with hb43 | hb43
     ·have ho := cnd1 ho hb43
      refine mvg (gt1 hb43) rfl rfl rfl <| s_cmp (.g rfl rfl (gt1 hb43)) rfl rfl (.t rfl) (.i (by decide) (by decide)) .eql <| pk1 hb43 rfl (.t rfl) <| mv rfl ?_
      rcases Bool.eq_false_or_eq_true ((y29.2.2 == 0)) with hb44 | hb44
      ·have ho := cnd1 ho hb44
       refine mvg (gt1 hb44) rfl rfl rfl <| s_leno 0 S23 (.g rfl rfl (gt1 hb44)) rfl rfl rfl rfl rfl (.t rfl) rfl <| mvg (gt1 hb44) rfl rfl rfl <| s_leno 2 S23 (.g rfl rfl (gt1 hb44)) rfl rfl rfl rfl rfl (.t rfl) rfl <| s_cmp (.g rfl rfl (gt1 hb44)) rfl rfl (.t rfl) (.t rfl) .leq <| pk1 hb44 rfl (.t rfl) <| mv rfl ?_
       rcases Bool.eq_false_or_eq_true ((decide ((lenI y29.1) ≤ (lenI y18.1)))) with hb45 | hb45
       ·have ho := cnd1 ho hb45
        refine mvg (gt1 hb45) rfl rfl rfl <| s_leno 1 S23 (.g rfl rfl (gt1 hb45)) rfl rfl rfl rfl rfl (.t rfl) rfl <| mvg (gt1 hb45) rfl rfl rfl <| s_leno 2 S23 (.g rfl rfl (gt1 hb45)) rfl rfl rfl rfl rfl (.t rfl) rfl <| s_cmp (.g rfl rfl (gt1 hb45)) rfl rfl (.t rfl) (.t rfl) .leq <| pk1 hb45 rfl (.t rfl) <| mv rfl ?_
        rcases Bool.eq_false_or_eq_true ((decide ((lenI y24.1) ≤ (lenI y18.1)))) with hb46 | hb46
        ·have ho := cnd1 ho hb46
         refine mvg (gt1 hb46) rfl rfl rfl <| s_leno 2 S23 (.g rfl rfl (gt1 hb46)) rfl rfl rfl rfl rfl (.t rfl) rfl <| mvg (gt1 hb46) rfl rfl rfl <| s_leno 1 S23 (.g rfl rfl (gt1 hb46)) rfl rfl rfl rfl rfl (.t rfl) rfl <| s_ar (.g rfl rfl (gt1 hb46)) rfl rfl (.t rfl) (.i (by decide) (by decide)) .add <| s_cmp (.g rfl rfl (gt1 hb46)) rfl rfl (.t rfl) (.t rfl) .leq <| pk1 hb46 rfl (.t rfl) <| mv rfl ?_
         rcases Bool.eq_false_or_eq_true ((decide ((lenI y18.1) ≤ (w64 ((lenI y24.1) + 1))))) with hb47 | hb47
         ·have ho := cnd1 ho hb47
          obtain ⟨y48, hy48, ho⟩ := bnd ho
          refine s_calll (g_law08_known_ok hy48) (.v flat_bool .n) rfl (.g rfl rfl (gt1 hb47)) rfl rfl rfl .f .n ?_
          show SOps ..
          refine pk1 hb47 rfl (.t rfl) <| sg rfl ?_
          cases ho
          exact s_nil (fun fr h s => And.intro rfl (Exists.intro () (s.pick [0, 1, 2, 3] ⟨rfl, trivial⟩ rfl (by decide))))
         ·have ho := cnd0 ho hb47
          refine skg (gt0 hb47) rfl rfl <| pk0 hb47 rfl .b <| sg rfl ?_
          cases ho
          exact s_nil (fun fr h s => And.intro rfl (Exists.intro () (s.pick [0, 1, 2, 3] ⟨rfl, trivial⟩ rfl (by decide))))
        ·have ho := cnd0 ho hb46
         refine skg (gt0 hb46) rfl rfl <| skg (gt0 hb46) rfl rfl <| skg (gt0 hb46) rfl rfl <| skg (gt0 hb46) rfl rfl <| skg (gt0 hb46) rfl rfl <| skg (gt0 hb46) rfl rfl <| pk0 hb46 rfl .b <| mv rfl <| skg rfl rfl rfl <| s_pick0 (.n rfl) rfl rfl (.t rfl) .b <| sg rfl ?_
         cases ho
         exact s_nil (fun fr h s => And.intro rfl (Exists.intro () (s.pick [0, 1, 2, 3] ⟨rfl, trivial⟩ rfl (by decide))))
       ·have ho := cnd0 ho hb45
        refine skg (gt0 hb45) rfl rfl <| skg (gt0 hb45) rfl rfl <| skg (gt0 hb45) rfl rfl <| skg (gt0 hb45) rfl rfl <| skg (gt0 hb45) rfl rfl <| pk0 hb45 rfl .b <| mv rfl <| skg rfl rfl rfl <| skg rfl rfl rfl <| skg rfl rfl rfl <| skg rfl rfl rfl <| skg rfl rfl rfl <| skg rfl rfl rfl <| s_pick0 (.n rfl) rfl rfl (.t rfl) .b <| mv rfl <| skg rfl rfl rfl <| s_pick0 (.n rfl) rfl rfl (.t rfl) .b <| sg rfl ?_
        cases ho
        exact s_nil (fun fr h s => And.intro rfl (Exists.intro () (s.pick [0, 1, 2, 3] ⟨rfl, trivial⟩ rfl (by decide))))
      ·have ho := cnd0 ho hb44
       refine skg (gt0 hb44) rfl rfl <| skg (gt0 hb44) rfl rfl <| skg (gt0 hb44) rfl rfl <| skg (gt0 hb44) rfl rfl <| skg (gt0 hb44) rfl rfl <| pk0 hb44 rfl .b <| mv rfl <| skg rfl rfl rfl <| skg rfl rfl rfl <| skg rfl rfl rfl <| skg rfl rfl rfl <| skg rfl rfl rfl <| s_pick0 (.n rfl) rfl rfl (.t rfl) .b <| mv rfl <| skg rfl rfl rfl <| skg rfl rfl rfl <| skg rfl rfl rfl <| skg rfl rfl rfl <| skg rfl rfl rfl <| skg rfl rfl rfl ?_
       refine s_pick0 (.n rfl) rfl rfl (.t rfl) .b <| mv rfl <| skg rfl rfl rfl <| s_pick0 (.n rfl) rfl rfl (.t rfl) .b <| sg rfl ?_
       cases ho
       exact s_nil (fun fr h s => And.intro rfl (Exists.intro () (s.pick [0, 1, 2, 3] ⟨rfl, trivial⟩ rfl (by decide))))
     ·have ho := cnd0 ho hb43
      refine skg (gt0 hb43) rfl rfl <| skg (gt0 hb43) rfl rfl <| pk0 hb43 rfl .b <| mv rfl <| skg rfl rfl rfl <| skg rfl rfl rfl <| skg rfl rfl rfl <| skg rfl rfl rfl <| skg rfl rfl rfl <| s_pick0 (.n rfl) rfl rfl (.t rfl) .b <| mv rfl <| skg rfl rfl rfl <| skg rfl rfl rfl <| skg rfl rfl rfl <| skg rfl rfl rfl <| skg rfl rfl rfl <| s_pick0 (.n rfl) rfl rfl (.t rfl) .b <| mv rfl <| skg rfl rfl rfl <| skg rfl rfl rfl ?_
      refine skg rfl rfl rfl <| skg rfl rfl rfl <| skg rfl rfl rfl <| skg rfl rfl rfl <| s_pick0 (.n rfl) rfl rfl (.t rfl) .b <| mv rfl <| skg rfl rfl rfl <| s_pick0 (.n rfl) rfl rfl (.t rfl) .b <| sg rfl ?_
      cases ho
      exact s_nil (fun fr h s => And.intro rfl (Exists.intro () (s.pick [0, 1, 2, 3] ⟨rfl, trivial⟩ rfl (by decide))))
    ·have ho := cnd0 ho hb42
     refine skg (gt0 hb42) rfl rfl <| skg (gt0 hb42) rfl rfl <| pk0 hb42 rfl .b <| mv rfl <| skg rfl rfl rfl <| skg rfl rfl rfl <| s_pick0 (.n rfl) rfl rfl (.t rfl) .b <| mv rfl <| skg rfl rfl rfl <| skg rfl rfl rfl <| skg rfl rfl rfl <| skg rfl rfl rfl <| skg rfl rfl rfl <| s_pick0 (.n rfl) rfl rfl (.t rfl) .b <| mv rfl <| skg rfl rfl rfl <| skg rfl rfl rfl <| skg rfl rfl rfl <| skg rfl rfl rfl <| skg rfl rfl rfl ?_
     refine s_pick0 (.n rfl) rfl rfl (.t rfl) .b <| mv rfl <| skg rfl rfl rfl <| skg rfl rfl rfl <| skg rfl rfl rfl <| skg rfl rfl rfl <| skg rfl rfl rfl <| skg rfl rfl rfl <| s_pick0 (.n rfl) rfl rfl (.t rfl) .b <| mv rfl <| skg rfl rfl rfl <| s_pick0 (.n rfl) rfl rfl (.t rfl) .b <| sg rfl ?_
     cases ho
     exact s_nil (fun fr h s => And.intro rfl (Exists.intro () (s.pick [0, 1, 2, 3] ⟨rfl, trivial⟩ rfl (by decide))))
   ·intro _
    show SRun ..
    cases ho
    exact r_ret (ret_of (.inr rfl) (.v rfl .n) (by decide))
end Go.Ai.TabYtdhenjdmpacklaa
