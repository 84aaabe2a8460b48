/- Written by program: walks through functions. -/
import Derived.Test.YtcokdbcdlaofbaaGreatQ11
set_option linter.unusedSimpArgs false
set_option linter.unusedVariables false
set_option linter.unusedSectionVars false
namespace Go.Ai.TabYtcokdbcdlaofbaaGreat
open Go Go.Ai Go.Ai.Sx Go.Proofs
attribute [local irreducible] SOps
set_option maxRecDepth 100000
set_option maxHeartbeats 4000000
instance i45 {n_0 low_1 high_2}:FI ktab 45 (zn n_0 low_1 high_2) [vI n_0,vI low_1,vI high_2] (fun out=>[.val rBool (out)]):=⟨fun out ho=>by
 delta zn at ho
 refine fn fun _ _=>?_
 refine run 5 ?_
 obtain ⟨c2,hc2,ho⟩:=bnd ho
 refine wcx c2 [] (fun t=>(.normal,fun _=>([(6,vB (t))],[]))) SEL ?_ fun _=>?_
 ·exact w hc2
 ·show SRun ..
  cases ho; exact r_ret (zm (.inr rfl) (.v rfl .n) (by decide))⟩
instance i86 {s_0 f_1}:FI ktab 86 (zh3 s_0 f_1) [.val (rSlice (rInt .i64)) s_0,.val (rFn ktab (Int) (Bool) (fun x=>[.val (rInt .i64) (x)]) (fun y=>[.val rBool (y)])) f_1] (fun out=>[.val (rInt .i64) (out)]):=⟨fun out ho=>by
 delta zh3 at ho
 refine fn fun _ _=>?_
 refine run 12 ?_
 obtain ⟨t11,ht11,ho⟩:=bnd ho
 refine wlp ht11 [0,1,7] (fun s g=>([(8,vI (s))],[])) (altX (fun b=>(.exit 0,fun g=>([],[]))) (fun b=>(.ret,fun g=>([(4,vI (b))],[])))) [] SEL (pk []) NE (fun s5 g6 _ ho=>?_) fun g12=>?_
 ·refine run 5 ?_
  refine wct ho (fun hq7 ho=>?_) fun hq7 ho=>?_
  ·refine run 13 ?_
   obtain ⟨x8,hx8,ho⟩:=bnd ho
   refine run 2 ?_
   obtain ⟨y9,hy9,ho⟩:=bnd ho
   refine zi11 (X:=(Int)) (Y:=(Bool)) (f:=f_1) (x:=x8) hy9 (.n rfl) rfl rfl rfl (.t rfl) (.c (.t rfl) .n) ?_
   exact w ho
  ·cases ho; exact zp1 (lf [] [])
 ·rcases t11 with b13 | b14
  ·have ho:=alt_l ho
   show SRun ..
   exact w ho
  ·have ho:=alt_r ho
   cases ho; exact id (zm (.inr rfl) (.v rfl .n) (by decide))⟩
instance i55 {s_0 f_1}:FI ktab 55 (zc2 s_0 f_1) [.val (rSlice (rInt .i64)) s_0,.val (rFn ktab (Int) (Bool) (fun x=>[.val (rInt .i64) (x)]) (fun y=>[.val rBool (y)])) f_1] (fun out=>[.val rBool (out)]):=⟨fun out ho=>by
 delta zc2 at ho
 refine fn fun _ _=>?_
 exact w ho⟩
instance i56 {g_0}:FI ktab 56 (zt6 g_0) [vI g_0] (fun out=>[.val rBool (out)]):=⟨fun out ho=>by
 delta zt6 at ho
 refine fn fun _ _=>?_
 exact w ho⟩
instance i32 {p_0}:FI ktab 32 (zm6 p_0) [.val rTrain p_0] (fun out=>[.val (rInt .i64) (out)]):=⟨fun out ho=>by
 delta zm6 at ho
 refine fn fun _ _=>?_
 refine run 7 ?_
 obtain ⟨c18,hc18,ho⟩:=bnd ho
 refine wcx c18 [1] (fun t=>(.normal,fun _=>([(54,vB (t))],[]))) SEL ?_ fun _=>?_
 ·exact w hc18
 ·show SRun ..
  refine wct ho (fun hq36 ho=>?_) fun hq36 ho=>?_
  ·exact w ho
  ·refine run 3 ?_
   obtain ⟨c40,hc40,ho⟩:=bnd ho
   refine wcx c40 [] (fun t=>(.normal,fun _=>([(64,vB (t))],[]))) SEL ?_ fun _=>?_
   ·have ho:=hc40
    refine run 4 ?_
    refine xcl ho ?_
    intro y41 hy41 ho
    show SOps ..
    refine run 2 ?_
    refine wbr ho (fun hb42 ho=>?_) fun hb42 ho=>?_
    ·exact w ho
    ·refine run 2 ?_
     obtain ⟨y43,hy43,ho⟩:=bnd ho
     refine ze13 (i55.ok _ hy43) (.v zr15 .n) rfl (.g rfl rfl (gf0 hb42)) rfl rfl rfl .f (.c (.o (.t rfl)) (.c (.o (.fv (zi12 (fun x y hf=>i56.ok _ hf) rfl))) .n)) ?_
     exact w ho
   ·show SRun ..
    exact w ho⟩
instance i62 {t_0 state_1}:FI ktab 62 (zc5 t_0 state_1) [.val rTrain t_0,vI state_1] (fun out=>[.val (rPtrN zi) (out.1),.val rBool (out.2)]):=⟨fun out ho=>by
 delta zc5 at ho
 refine fn fun _ _=>?_
 refine run 3 ?_
 refine zy1 rfl (.n rfl) rfl (e:=.val (rPtrN zi) none) (fun z fr h s=>⟨_,rfl,zj7⟩) ?_
 refine run 4 ?_
 obtain ⟨c4,hc4,ho⟩:=bnd ho
 refine wcx c4 [1,2] (fun t=>(.normal,fun _=>([(17,vB (t))],[]))) SEL ?_ fun _=>?_
 ·exact w hc4
 ·show SRun ..
  refine wct ho (fun hq8 ho=>?_) fun hq8 ho=>?_
  ·refine run 2 ?_
   refine zy1 rfl (.n rfl) rfl (e:=.val (rPtrN zi) none) (fun z fr h s=>⟨_,rfl,zj7⟩) ?_
   exact w ho
  ·refine run 10 ?_
   cases ho
   refine r_st (zq23 (n:=4) rfl) ?_
   exact r_ret (zm (.inr rfl) (.v rfl (.v rfl .n)) (by decide))⟩
instance i63 {m_0 x_1}:FI ktab 63 (zz4 m_0 x_1) [.val (rPtr zi) m_0,.val rMotionState x_1] (fun out=>[.val rBool (out)]):=⟨fun out ho=>by
 delta zz4 at ho
 refine fn fun _ _=>?_
 refine run 6 ?_
 obtain ⟨c7,hc7,ho⟩:=bnd ho
 refine wcx c7 [] (fun t=>(.normal,fun _=>([(4,vB (t))],[]))) SEL ?_ fun _=>?_
 ·exact w hc7
 ·show SRun ..
  cases ho; exact r_ret (zm (.inr rfl) (.v rfl .n) (by decide))⟩
instance i41 {t_0 x_1 demand_2 slope_3 state_4}:FI ktab 41 (zy4 t_0 x_1 demand_2 slope_3 state_4) [.val rTrain t_0,.val rMotionState x_1,vI demand_2,vI slope_3,vI state_4] (fun out=>[.val (rPtrN zi) (out.1),.val rBool (out.2)]):=⟨fun out ho=>by
 delta zy4 at ho
 refine fn fun _ _=>?_
 refine run 4 ?_
 refine zy1 rfl (.n rfl) rfl (e:=.val (rPtrN zi) none) (fun z fr h s=>⟨_,rfl,zj7⟩) ?_
 refine run 6 ?_
 refine xcl ho ?_
 intro y1 hy1 ho
 show SOps ..
 refine run 7 ?_
 obtain ⟨c9,hc9,ho⟩:=bnd ho
 refine wcx c9 [] (fun t=>(.normal,fun _=>([(10,.val (rPtrN zi) (t.1)),(11,vB (t.2))],[]))) SEL ?_ fun _=>?_
 ·have ho:=hc9
  refine run 4 ?_
  refine wbr ho (fun hb10 ho=>?_) fun hb10 ho=>?_
  ·refine run 2 ?_
   obtain ⟨p11,hp11,ho⟩:=bnd ho
   refine s_st (zo5 (n:=23) hp11 rfl) ?_
   exact w ho
  ·exact w ho
 ·show SRun ..
  cases ho; exact r_ret (zm (.inr rfl) (.v rfl (.v rfl .n)) (by decide))⟩
instance i111 {m_0}:FI ktab 111 (zo2 m_0) [.val (rPtr zi) m_0] (fun out=>[.val (rInt .i64) (out)]):=⟨fun out ho=>by
 delta zo2 at ho
 refine fn fun _ _=>?_
 exact w ho⟩
instance i88 {m_0 v_1 demand_2 slope_3}:FI ktab 88 (zk2 m_0 v_1 demand_2 slope_3) [.val (rPtr zi) m_0,vI v_1,vI demand_2,vI slope_3] (fun out=>[.val (rInt .i64) (out)]):=⟨fun out ho=>by
 delta zk2 at ho
 refine fn fun _ _=>?_
 exact w ho⟩
instance i89 {m_0 v_1 demand_2 slope_3}:FI ktab 89 (zg2 m_0 v_1 demand_2 slope_3) [.val (rPtr zi) m_0,vI v_1,vI demand_2,vI slope_3] (fun out=>[.val (rInt .i64) (out)]):=⟨fun out ho=>by
 delta zg2 at ho
 refine fn fun _ _=>?_
 exact w ho⟩
instance i90 {m_0 v_1 demand_2 slope_3}:FI ktab 90 (zx2 m_0 v_1 demand_2 slope_3) [.val (rPtr zi) m_0,vI v_1,vI demand_2,vI slope_3] (fun out=>[.val (rInt .i64) (out)]):=⟨fun out ho=>by
 delta zx2 at ho
 refine fn fun _ _=>?_
 exact w ho⟩
instance i91 {m_0 v_1 demand_2 slope_3}:FI ktab 91 (zy2 m_0 v_1 demand_2 slope_3) [.val (rPtr zi) m_0,vI v_1,vI demand_2,vI slope_3] (fun out=>[.val (rInt .i64) (out)]):=⟨fun out ho=>by
 delta zy2 at ho
 refine fn fun _ _=>?_
 exact w ho⟩
instance i64 {m_0 v_1 demand_2 slope_3}:FI ktab 64 (zk4 m_0 v_1 demand_2 slope_3) [.val (rPtr zi) m_0,vI v_1,vI demand_2,vI slope_3] (fun out=>[.val (rArr 4 (rInt .i64)) (out)]):=⟨fun out ho=>by
 delta zk4 at ho
 refine fn fun _ _=>?_
 refine run 2 ?_
 refine xal (zv:=.agg [.int .i64 0,.int .i64 0,.int .i64 0,.int .i64 0]) (es:=[.raw (.int .i64 0),.raw (.int .i64 0),.raw (.int .i64 0),.raw (.int .i64 0)]) (by kernel_rfl) fun b1=>?_
 refine run 3 ?_
 refine zv33 (R:=(rInt .i64)) (x:=0) AR128 (zc:=[.int .i64 0,.int .i64 0,.int .i64 0,.int .i64 0]) (by kernel_rfl) (zarr (fun _=>zint) rfl) (by decide) (.n rfl) rfl rfl ?_
 intro b2
 refine run 5 ?_
 refine zt15 (X:=(Int × Int × Int)) (Y:=(Int)) (fun x=>[.val (rInt .i64) (x.1),.val (rInt .i64) (x.2.1),.val (rInt .i64) (x.2.2)]) (fun y=>[.val (rInt .i64) (y)]) (f:=(fun x=>zk2 m_0 x.1 x.2.1 x.2.2)) (fun x y hf=>i88.ok _ hf) rfl (.n rfl) rfl rfl (.c (.t rfl) .n) .n ?_
 refine run 1 ?_
 refine zt15 (X:=(Int × Int × Int)) (Y:=(Int)) (fun x=>[.val (rInt .i64) (x.1),.val (rInt .i64) (x.2.1),.val (rInt .i64) (x.2.2)]) (fun y=>[.val (rInt .i64) (y)]) (f:=(fun x=>zg2 m_0 x.1 x.2.1 x.2.2)) (fun x y hf=>i89.ok _ hf) rfl (.n rfl) rfl rfl (.c (.t rfl) .n) .n ?_
 refine run 1 ?_
 refine zt15 (X:=(Int × Int × Int)) (Y:=(Int)) (fun x=>[.val (rInt .i64) (x.1),.val (rInt .i64) (x.2.1),.val (rInt .i64) (x.2.2)]) (fun y=>[.val (rInt .i64) (y)]) (f:=(fun x=>zx2 m_0 x.1 x.2.1 x.2.2)) (fun x y hf=>i90.ok _ hf) rfl (.n rfl) rfl rfl (.c (.t rfl) .n) .n ?_
 refine run 1 ?_
 refine zt15 (X:=(Int × Int × Int)) (Y:=(Int)) (fun x=>[.val (rInt .i64) (x.1),.val (rInt .i64) (x.2.1),.val (rInt .i64) (x.2.2)]) (fun y=>[.val (rInt .i64) (y)]) (f:=(fun x=>zy2 m_0 x.1 x.2.1 x.2.2)) (fun x y hf=>i91.ok _ hf) rfl (.n rfl) rfl rfl (.c (.t rfl) .n) .n ?_
 refine zu33 (R:=(rFn ktab (Int × Int × Int) (Int) (fun x=>[.val (rInt .i64) (x.1),.val (rInt .i64) (x.2.1),.val (rInt .i64) (x.2.2)]) (fun y=>[.val (rInt .i64) (y)]))) (zc:=[.nilfunc,.nilfunc,.nilfunc,.nilfunc]) AR158 (by kernel_rfl) (by rfl) (.n rfl) rfl rfl (.c (.t rfl) (.c (.t rfl) (.c (.t rfl) (.c (.t rfl) .n)))) (by rfl) ?_
 refine run 3 ?_
 obtain ⟨t17,ht17,ho⟩:=bnd ho
 refine wlp ht17 [1,2,3,8,9,20] (fun s g=>([(21,vI (s.1))],[((.slice b2 0 4 1 (some 4)),.row (rInt .i64) (s.2)),(.ptr b1 0,.box [.raw (.int .i64 0),.raw (.int .i64 0),.raw (.int .i64 0),.raw (.int .i64 0)])])) (fun b=>(.exit 0,fun g=>([],[((.slice b2 0 4 1 (some 4)),.row (rInt .i64) (b)),(.ptr b1 0,.box [.raw (.int .i64 0),.raw (.int .i64 0),.raw (.int .i64 0),.raw (.int .i64 0)])]))) [] SEL (pk [0,1]) NE (fun s11 g12 _ ho=>?_) fun g18=>?_
 ·refine run 5 ?_
  refine wct ho (fun hq13 ho=>?_) fun hq13 ho=>?_
  ·refine run 6 ?_
   obtain ⟨x14,hx14,ho⟩:=bnd ho
   refine run 10 ?_
   obtain ⟨y15,hy15,ho⟩:=bnd ho
   refine zi11 (X:=(Int × Int × Int)) (Y:=(Int)) (f:=x14) (x:=(v_1,demand_2,slope_3)) hy15 (.n rfl) rfl rfl rfl (.t rfl) (.c (.t rfl) (.c (.t rfl) (.c (.t rfl) .n))) ?_
   show SOps ..
   obtain ⟨x16,hx16,ho⟩:=bnd ho
   refine run 6 ?_
   cases ho; exact s_nil (lf [] [0,1])
  ·cases ho; exact zp1 (lf [] [0,1])
 ·show SRun ..
  refine run 2 ?_
  refine zo37 0 (fun _ h=>by cases h <;> rfl) AR128 rfl (.n rfl) rfl rfl (.t rfl) ?_
  refine zj12 1 AR128 rfl (by rfl) (by decide) (.n rfl) rfl rfl (.t rfl) (.t rfl) (by rfl) ?_
  refine run 1 ?_
  cases ho; exact r_ret (zm (.inr rfl) (.a 1 AR128 rfl rfl .n) (by decide))⟩
instance i65 {m_0 x_1}:FI ktab 65 (zr2 m_0 x_1) [.val (rPtr zi) m_0,.val rMotionState x_1] (fun out=>[.val (rInt .i64) (out)]):=⟨fun out ho=>by
 delta zr2 at ho
 refine fn fun _ _=>?_
 exact w ho⟩
instance i42 {p_0 p_1 p_2 p_3}:FI ktab 42 (zq1 p_0 p_1 p_2 p_3) [.val (rPtr zi) p_0,.val rMotionState p_1,vI p_2,vI p_3] (fun out=>[.val zt (out.1),.val rBool (out.2)]):=⟨fun out ho=>by
 delta zq1 at ho
 refine fn fun _ _=>?_
 refine run 3 ?_
 refine xal (zv:=.agg [.int .i64 0,.int .i64 0,.int .i64 0,.int .i64 0,.int .i64 0,.int .i64 0,.int .i64 0,.int .i64 0,.int .i64 0,.int .i64 0]) (es:=[vI (0),vI (0),vI (0),vI (0),vI (0),vI (0),vI (0),vI (0),vI (0),vI (0)]) (by kernel_rfl) fun b1=>?_
 refine run 7 ?_
 refine xcl ho ?_
 intro y2 hy2 ho
 show SOps ..
 refine run 2 ?_
 refine xcl ho ?_
 intro y3 hy3 ho
 show SOps ..
 refine xal (zv:=.agg [.int .i64 0,.int .i64 0,.int .i64 0,.int .i64 0]) (es:=[.raw (.int .i64 0),.raw (.int .i64 0),.raw (.int .i64 0),.raw (.int .i64 0)]) (by kernel_rfl) fun b4=>?_
 refine zj12 0 AR128 rfl (by rfl) (by decide) (.n rfl) rfl rfl (.t rfl) (.t rfl) (by rfl) ?_
 refine s_st (zd18 (R:=(rInt .i64)) 0 [10] (by decide) (by decide) rfl rfl ⟨rfl,trivial⟩) ?_
 refine run 3 ?_
 obtain ⟨x5,hx5,ho⟩:=bnd ho
 refine za6 AR128 hx5 (.n rfl) rfl rfl (.t rfl) (.i (by decide) (by decide)) ?_
 refine run 1 ?_
 obtain ⟨x6,hx6,ho⟩:=bnd ho
 refine za6 AR128 hx6 (.n rfl) rfl rfl (.t rfl) (.i (by decide) (by decide)) ?_
 refine run 2 ?_
 obtain ⟨x7,hx7,ho⟩:=bnd ho
 refine za6 AR128 hx7 (.n rfl) rfl rfl (.t rfl) (.i (by decide) (by decide)) ?_
 refine run 2 ?_
 obtain ⟨x8,hx8,ho⟩:=bnd ho
 refine za6 AR128 hx8 (.n rfl) rfl rfl (.t rfl) (.i (by decide) (by decide)) ?_
 refine run 18 ?_
 refine xal (zv:=.agg [.int .i64 0,.int .i64 0,.int .i64 0,.int .i64 0,.int .i64 0,.int .i64 0,.int .i64 0,.int .i64 0,.int .i64 0,.int .i64 0]) (es:=[vI (0),vI (0),vI (0),vI (0),vI (0),vI (0),vI (0),vI (0),vI (0),vI (0)]) (by kernel_rfl) fun b9=>?_
 refine run 3 ?_
 obtain ⟨c12,hc12,ho⟩:=bnd ho
 refine wcx c12 [0,5,8,10,11,12,13,14] (fun t=>(.normal,fun _=>([(49,vB (t))],[(.ptr b9 0,.box [vI (0),vI (0),vI (0),vI (0),vI (0),vI (0),vI (0),vI (0),vI (0),vI (0)]),(.ptr b1 0,.box [vI (0),vI (0),vI (0),vI (0),vI (0),vI (0),vI (0),vI (0),vI (0),vI (0)])]))) SEL ?_ fun _=>?_
 ·have ho:=hc12
  refine run 4 ?_
  refine wbr ho (fun hb13 ho=>?_) fun hb13 ho=>?_
  ·refine run 7 ?_
   cases ho; exact s_nil (lf [] [0,1])
  ·refine run 3 ?_
   refine wbr ho (fun hb14 ho=>?_) fun hb14 ho=>?_
   ·refine run 4 ?_
    cases ho; exact s_nil (lf [] [0,1])
   ·refine run 4 ?_
    cases ho; exact s_nil (lf [] [0,1])
 ·show SRun ..
  refine wct ho (fun hq15 ho=>?_) fun hq15 ho=>?_
  ·refine run 21 ?_
   refine zg9 (off:=0) (es':=[vI (0),vI ((w64 (p_1.2.1 + 0)))]) 0 U26 rfl (za (zb rfl) (za (zb rfl) ze rfl) rfl) (by exact Nat.le_of_ble_eq_true rfl) (.n rfl) rfl rfl (.t rfl) (.t rfl) (by rfl) ?_
   refine run 3 ?_
   obtain ⟨x20,hx20,ho⟩:=bnd ho
   refine za6 AR128 hx20 (.n rfl) rfl rfl (.t rfl) (.i (by decide) (by decide)) ?_
   refine run 4 ?_
   obtain ⟨x21,hx21,ho⟩:=bnd ho
   refine za6 AR128 hx21 (.n rfl) rfl rfl (.t rfl) (.i (by decide) (by decide)) ?_
   refine run 4 ?_
   obtain ⟨x22,hx22,ho⟩:=bnd ho
   refine za6 AR128 hx22 (.n rfl) rfl rfl (.t rfl) (.i (by decide) (by decide)) ?_
   refine run 4 ?_
   obtain ⟨x23,hx23,ho⟩:=bnd ho
   refine za6 AR128 hx23 (.n rfl) rfl rfl (.t rfl) (.i (by decide) (by decide)) ?_
   refine run 19 ?_
   obtain ⟨x26,hx26,ho⟩:=bnd ho
   refine za6 AR128 hx26 (.n rfl) rfl rfl (.t rfl) (.i (by decide) (by decide)) ?_
   refine run 17 ?_
   obtain ⟨x27,hx27,ho⟩:=bnd ho
   refine run 6 ?_
   obtain ⟨x30,hx30,ho⟩:=bnd ho
   refine za6 AR128 hx30 (.n rfl) rfl rfl (.t rfl) (.i (by decide) (by decide)) ?_
   refine run 15 ?_
   obtain ⟨x31,hx31,ho⟩:=bnd ho
   refine run 5 ?_
   refine za3 [0] (by kernel_rfl) ?_
   refine zz (R:=zt) (a:=((0,(w64 (p_1.2.1 + 0)),()),((w64 ((w64 (200 * x20)) * 0)),(w64 ((w64 (200 * x21)) * 0)),(w64 ((w64 (200 * x22)) * 0)),(w64 ((w64 (200 * x23)) * 0)),0,(w64 (p_1.1 * p_1.1)),()),x27,x31,())) 0 (fun _ h=>by cases h <;> rfl) U89 (za (za (zb rfl) (za (zb rfl) ze rfl) rfl) (za (za (zb rfl) (za (zb rfl) (za (zb rfl) (za (zb rfl) (za (zb rfl) (za (zb rfl) ze rfl) rfl) rfl) rfl) rfl) rfl) (za (zb rfl) (za (zb rfl) ze rfl) rfl) rfl) rfl) (.n rfl) rfl rfl (.t rfl) rfl ?_
   refine run 11 ?_
   cases ho; exact r_ret (zm (.inr rfl) (.b 1 U89 (za (za (zb rfl) (za (zb rfl) ze rfl) rfl) (za (za (zb rfl) (za (zb rfl) (za (zb rfl) (za (zb rfl) (za (zb rfl) (za (zb rfl) ze rfl) rfl) rfl) rfl) rfl) rfl) (za (zb rfl) (za (zb rfl) ze rfl) rfl) rfl) rfl) rfl rfl (.v rfl .n)) (by decide))
  ·refine run 18 ?_
   refine zg9 (off:=0) (es':=[vI ((w64 (p_1.1 + (w64 (100 * (w64 ((w64 ((w64 (x5 - x6)) - x7)) - x8))))))),vI ((w64 (p_1.2.1 + (w64 (p_1.1 + (w64 (100 * (w64 ((w64 ((w64 (x5 - x6)) - x7)) - x8)))))))))]) 0 U26 rfl (za (zb rfl) (za (zb rfl) ze rfl) rfl) (by exact Nat.le_of_ble_eq_true rfl) (.n rfl) rfl rfl (.t rfl) (.t rfl) (by rfl) ?_
   refine run 3 ?_
   obtain ⟨x36,hx36,ho⟩:=bnd ho
   refine za6 AR128 hx36 (.n rfl) rfl rfl (.t rfl) (.i (by decide) (by decide)) ?_
   refine run 4 ?_
   obtain ⟨x37,hx37,ho⟩:=bnd ho
   refine za6 AR128 hx37 (.n rfl) rfl rfl (.t rfl) (.i (by decide) (by decide)) ?_
   refine run 4 ?_
   obtain ⟨x38,hx38,ho⟩:=bnd ho
   refine za6 AR128 hx38 (.n rfl) rfl rfl (.t rfl) (.i (by decide) (by decide)) ?_
   refine run 4 ?_
   obtain ⟨x39,hx39,ho⟩:=bnd ho
   refine za6 AR128 hx39 (.n rfl) rfl rfl (.t rfl) (.i (by decide) (by decide)) ?_
   refine run 19 ?_
   obtain ⟨x42,hx42,ho⟩:=bnd ho
   refine za6 AR128 hx42 (.n rfl) rfl rfl (.t rfl) (.i (by decide) (by decide)) ?_
   refine run 17 ?_
   obtain ⟨x43,hx43,ho⟩:=bnd ho
   refine run 6 ?_
   obtain ⟨x46,hx46,ho⟩:=bnd ho
   refine za6 AR128 hx46 (.n rfl) rfl rfl (.t rfl) (.i (by decide) (by decide)) ?_
   refine run 15 ?_
   obtain ⟨x47,hx47,ho⟩:=bnd ho
   refine run 5 ?_
   refine za3 [0] (by kernel_rfl) ?_
   refine zz (R:=zt) (a:=(((w64 (p_1.1 + (w64 (100 * (w64 ((w64 ((w64 (x5 - x6)) - x7)) - x8)))))),(w64 (p_1.2.1 + (w64 (p_1.1 + (w64 (100 * (w64 ((w64 ((w64 (x5 - x6)) - x7)) - x8)))))))),()),((w64 ((w64 (200 * x36)) * (w64 (p_1.1 + (w64 (100 * (w64 ((w64 ((w64 (x5 - x6)) - x7)) - x8)))))))),(w64 ((w64 (200 * x37)) * (w64 (p_1.1 + (w64 (100 * (w64 ((w64 ((w64 (x5 - x6)) - x7)) - x8)))))))),(w64 ((w64 (200 * x38)) * (w64 (p_1.1 + (w64 (100 * (w64 ((w64 ((w64 (x5 - x6)) - x7)) - x8)))))))),(w64 ((w64 (200 * x39)) * (w64 (p_1.1 + (w64 (100 * (w64 ((w64 ((w64 (x5 - x6)) - x7)) - x8)))))))),(w64 ((w64 (10000 * (w64 ((w64 ((w64 (x5 - x6)) - x7)) - x8)))) * (w64 ((w64 ((w64 (x5 - x6)) - x7)) - x8)))),0,()),x43,x47,())) 0 (fun _ h=>by cases h <;> rfl) U89 (za (za (zb rfl) (za (zb rfl) ze rfl) rfl) (za (za (zb rfl) (za (zb rfl) (za (zb rfl) (za (zb rfl) (za (zb rfl) (za (zb rfl) ze rfl) rfl) rfl) rfl) rfl) rfl) (za (zb rfl) (za (zb rfl) ze rfl) rfl) rfl) rfl) (.n rfl) rfl rfl (.t rfl) rfl ?_
   refine run 11 ?_
   cases ho; exact r_ret (zm (.inr rfl) (.b 1 U89 (za (za (zb rfl) (za (zb rfl) ze rfl) rfl) (za (za (zb rfl) (za (zb rfl) (za (zb rfl) (za (zb rfl) (za (zb rfl) (za (zb rfl) ze rfl) rfl) rfl) rfl) rfl) rfl) (za (zb rfl) (za (zb rfl) ze rfl) rfl) rfl) rfl) rfl rfl (.v rfl .n)) (by decide))⟩
instance i16 {t_0 x_1 demand_2 slope_3 state_4}:FI ktab 16 (zf6 t_0 x_1 demand_2 slope_3 state_4) [.val rTrain t_0,.val rMotionState x_1,vI demand_2,vI slope_3,vI state_4] (fun out=>[.val rMotionState (out.1),.val rMotionLedger (out.2.1),.val (rInt .i64) (out.2.2)]):=⟨fun out ho=>by
 delta zf6 at ho
 refine fn fun _ _=>?_
 refine run 4 ?_
 refine xal (zv:=.agg [.int .i64 0,.int .i64 0]) (es:=[vI (0),vI (0)]) (by kernel_rfl) fun b1=>?_
 refine xal (zv:=.agg [.int .i64 0,.int .i64 0,.int .i64 0,.int .i64 0,.int .i64 0,.int .i64 0]) (es:=[vI (0),vI (0),vI (0),vI (0),vI (0),vI (0)]) (by kernel_rfl) fun b2=>?_
 refine run 9 ?_
 refine xcl ho ?_
 intro y3 hy3 ho
 show SOps ..
 refine run 12 ?_
 refine wct ho (fun hq4 ho=>?_) fun hq4 ho=>?_
 ·refine run 8 ?_
  cases ho; exact r_ret (zm (.inr rfl) (.b 1 U26 (za (zb rfl) (za (zb rfl) ze rfl) rfl) rfl rfl (.b 0 U31 (za (zb rfl) (za (zb rfl) (za (zb rfl) (za (zb rfl) (za (zb rfl) (za (zb rfl) ze rfl) rfl) rfl) rfl) rfl) rfl) rfl rfl (.v rfl .n))) (by decide))
 ·refine run 7 ?_
  obtain ⟨p5,hp5,ho⟩:=bnd ho
  refine s_st (zo5 (n:=30) hp5 rfl) ?_
  refine xcl ho ?_
  intro y6 hy6 ho
  show SOps ..
  refine run 3 ?_
  refine xal (zv:=.agg [.int .i64 0,.int .i64 0,.int .i64 0,.int .i64 0,.int .i64 0,.int .i64 0,.int .i64 0,.int .i64 0,.int .i64 0,.int .i64 0]) (es:=[vI (0),vI (0),vI (0),vI (0),vI (0),vI (0),vI (0),vI (0),vI (0),vI (0)]) (by kernel_rfl) fun b7=>?_
  refine run 1 ?_
  refine s_st (zj (R:=zt) (a:=y6.1) 0 [15] (za (za (zb rfl) (za (zb rfl) ze rfl) rfl) (za (za (zb rfl) (za (zb rfl) (za (zb rfl) (za (zb rfl) (za (zb rfl) (za (zb rfl) ze rfl) rfl) rfl) rfl) rfl) rfl) (za (zb rfl) (za (zb rfl) ze rfl) rfl) rfl) rfl) rfl rfl ⟨rfl,trivial⟩) ?_
  refine run 4 ?_
  obtain ⟨c9,hc9,ho⟩:=bnd ho
  refine wcx c9 [10,11,15] (fun t=>(.normal,fun _=>([(44,vB (t))],[(.ptr b2 0,.box [vI (0),vI (0),vI (0),vI (0),vI (0),vI (0)]),(.ptr b1 0,.box [vI (0),vI (0)])]))) SEL ?_ fun _=>?_
  ·have ho:=hc9
   refine run 4 ?_
   refine wbr ho (fun hb10 ho=>?_) fun hb10 ho=>?_
   ·refine run 5 ?_
    cases ho; exact s_nil (lf [] [0,1])
   ·refine run 5 ?_
    cases ho; exact s_nil (lf [] [0,1])
  ·show SRun ..
   refine wct ho (fun hq11 ho=>?_) fun hq11 ho=>?_
   ·refine run 8 ?_
    cases ho; exact r_ret (zm (.inr rfl) (.b 1 U26 (za (zb rfl) (za (zb rfl) ze rfl) rfl) rfl rfl (.b 0 U31 (za (zb rfl) (za (zb rfl) (za (zb rfl) (za (zb rfl) (za (zb rfl) (za (zb rfl) ze rfl) rfl) rfl) rfl) rfl) rfl) rfl rfl (.v rfl .n))) (by decide))
   ·refine run 11 ?_
    cases ho; exact r_ret (zm (.inr rfl) (.b 1 U26 (za (zb rfl) (za (zb rfl) ze rfl) rfl) rfl rfl (.b 0 U31 (za (zb rfl) (za (zb rfl) (za (zb rfl) (za (zb rfl) (za (zb rfl) (za (zb rfl) ze rfl) rfl) rfl) rfl) rfl) rfl) rfl rfl (.v rfl .n))) (by decide))⟩
theorem zs5 {σ τ:Type} {step:σ → (MotionState) → Option (σ ⊕ τ)} {yv:AVal} {K:σ ⊕ τ → List AVal → Sx.Obj} (hcb:CbAt ktab yv (fun x=>[.val rMotionState (x)]) step K) {s_:σ} {p_1:MotionState} {p_2:zx} {p_3:((MotionState) → Option (Int))} {out:((σ ⊕ τ) × MotionState)} (ho:zd2 step s_ p_1 p_2 p_3 = some out) (b_1:Nat) (γ0:List AVal):FunM ktab 92 [.raw yv,.raw (.ptr b_1 0),.val (rPtr (rPtr zi)) p_2,.val (rPtr (rFn ktab (MotionState) (Int) (fun x=>[.val rMotionState (x)]) (fun y=>[.val (rInt .i64) (y)]))) p_3] [(yv,K (.inl s_) γ0),(.ptr b_1 0,.box [vI (p_1.1),vI (p_1.2.1)])] [] (fun γ=>[(yv,K (out.1) (untup (gh γ 0))),(.ptr b_1 0,.box [vI (out.2.1),vI (out.2.2.1)])]):=by
 refine zv15 (F:=Tryz.f92) (by rfl) (by rfl) (by rfl) (fun C=>?_)
 delta zd2 at ho
 refine run 5 ?_
 obtain ⟨t41,ht41,ho⟩:=bnd ho
 refine wlp ht41 [0,1,2,3] (fun s g=>([(7,vI (s.1))],[(yv,K s.2.1 ((untup (gh g 0)))),(.ptr b_1 0,.box [vI (s.2.2.1),vI (s.2.2.2)])])) (altX (fun b=>(.exit 0,fun g=>([],[(yv,K b.1 ((untup (gh g 0)))),(.ptr b_1 0,.box [vI (b.2.1),vI (b.2.2)])]))) (fun b=>(.ret,fun g=>([],[(yv,K b.1 ((untup (gh g 0)))),(.ptr b_1 0,.box [vI (b.2.1),vI (b.2.2)])])))) [.tuple γ0] SEL (pk [0,1]) NE (fun s26 g27 _ ho=>?_) fun g42=>?_
 ·refine run 5 ?_
  refine wct ho (fun hq28 ho=>?_) fun hq28 ho=>?_
  ·refine run 10 ?_
   refine wct ho (fun hq29 ho=>?_) fun hq29 ho=>?_
   ·cases ho; exact r_ret (lf [.tuple ((untup (gh g27 0)))] [0,1])
   ·refine run 2 ?_
    refine za3 [1,3] (by kernel_rfl) ?_
    refine run 1 ?_
    refine zz (R:=rMotionState) (a:=(s26.2.2.1,s26.2.2.2,())) 1 (fun _ h=>by cases h <;> rfl) U26 (za (zb rfl) (za (zb rfl) ze rfl) rfl) (.n rfl) rfl rfl (.t rfl) rfl ?_
    refine run 1 ?_
    refine zz (R:=rMotionState) (a:=(s26.2.2.1,s26.2.2.2,())) 1 (fun _ h=>by cases h <;> rfl) U26 (za (zb rfl) (za (zb rfl) ze rfl) rfl) (.n rfl) rfl rfl (.t rfl) rfl ?_
    obtain ⟨y33,hy33,ho⟩:=bnd ho
    refine zi11 (X:=(MotionState)) (Y:=(Int)) (f:=p_3) (x:=(s26.2.2.1,s26.2.2.2,())) hy33 (.n rfl) rfl rfl rfl (.t rfl) (.c (.t rfl) .n) ?_
    show SOps ..
    refine xcl ho ?_
    intro y34 hy34 ho
    show SOps ..
    refine run 3 ?_
    refine xal (zv:=.agg [.int .i64 0,.int .i64 0,.int .i64 0,.int .i64 0,.int .i64 0,.int .i64 0,.int .i64 0,.int .i64 0,.int .i64 0,.int .i64 0]) (es:=[vI (0),vI (0),vI (0),vI (0),vI (0),vI (0),vI (0),vI (0),vI (0),vI (0)]) (by kernel_rfl) fun b35=>?_
    refine run 1 ?_
    refine s_st (zj (R:=zt) (a:=y34.1) 0 [5] (za (za (zb rfl) (za (zb rfl) ze rfl) rfl) (za (za (zb rfl) (za (zb rfl) (za (zb rfl) (za (zb rfl) (za (zb rfl) (za (zb rfl) ze rfl) rfl) rfl) rfl) rfl) rfl) (za (zb rfl) (za (zb rfl) ze rfl) rfl) rfl) rfl) rfl rfl ⟨rfl,trivial⟩) ?_
    refine run 8 ?_
    refine wct ho (fun hq36 ho=>?_) fun hq36 ho=>?_
    ·cases ho; exact r_ret (lf [.tuple ((untup (gh g27 0)))] [0,1])
    ·refine run 10 ?_
     refine zz (R:=rMotionState) (a:=y34.1.1) 1 (fun _ h=>by cases h <;> rfl) U26 (za (zb rfl) (za (zb rfl) ze rfl) rfl) (.n rfl) rfl rfl (.t rfl) rfl ?_
     obtain ⟨s37,hs37,ho⟩:=bnd ho
     refine s_st (zb36 (K:=K) 0 (zo23 hs37) rfl rfl) ?_
     obtain ⟨y38,hy38,ho⟩:=bnd ho
     refine zk29 [0] [1] (fun _ h=>by cases h) hcb hy38 rfl rfl rfl (by decide) (.n rfl) rfl rfl rfl (.t rfl) (.c (.t rfl) .n) ?_
     intro v39
     refine run 2 ?_
     refine wct ho (fun hq40 ho=>?_) fun hq40 ho=>?_
     ·cases ho; exact r_ret (lf [.tuple v39] [0,1])
     ·refine run 4 ?_
      cases ho; exact s_nil (lf [.tuple v39] [0,1])
  ·cases ho; exact zp1 (lf [.tuple ((untup (gh g27 0)))] [0,1])
 ·rcases t41 with b43 | b44
  ·have ho:=alt_l ho
   cases ho; exact id (zj11 [0,1] [.tuple ((untup (gh g42 0)))] (.inl rfl) .n rfl (by decide))
  ·have ho:=alt_r ho
   cases ho; exact id (zj11 [0,1] [.tuple ((untup (gh g42 0)))] (.inr rfl) .n rfl (by decide))
theorem zj6 {m_0:zx} {x_1:MotionState} {slope_2:((MotionState) → Option (Int))} {out:(MotionState × zx × ((MotionState) → Option (Int)))} (ho:zp2 m_0 x_1 slope_2 = some out):FunB ktab 66 [.val (rPtr zi) m_0,.val rMotionState x_1,.val (rFn ktab (MotionState) (Int) (fun x=>[.val rMotionState (x)]) (fun y=>[.val (rInt .i64) (y)])) slope_2] 92 [.val (rInt .i64) (out.1.1),.val (rInt .i64) (out.1.2.1)] [.val (rPtr (rPtr zi)) (out.2.1),.val (rPtr (rFn ktab (MotionState) (Int) (fun x=>[.val rMotionState (x)]) (fun y=>[.val (rInt .i64) (y)]))) (out.2.2)]:=by
 refine zw37 (F:=Tryz.f66) (by rfl) (by rfl) (by rfl) (fun C hC=>?_)
 delta zp2 at ho
 refine run 3 ?_
 refine xbo fun b1=>?_
 refine run 1 ?_
 refine zy1 rfl (.n rfl) rfl (e:=.raw .nilfunc) (fun z fr h s=>⟨_,rfl,by simp only [TE.ok]; rfl⟩) ?_
 refine run 3 ?_
 refine zi29 (.n rfl) rfl rfl .n (.c (.t rfl) (.c (.t rfl) (.c (.t rfl) .n))) ?_
 refine run 2 ?_
 cases ho; exact r_ret (zv37 0 (.inr rfl) rfl rfl)
instance i67 {p_0 p_1}:FI ktab 67 (zt1 p_0 p_1) [.val rMotionState p_0,.val (rPtr (rInt .i64)) p_1] (fun out=>[.val (rInt .i64) (out)]):=⟨fun out ho=>by
 delta zt1 at ho
 refine fn fun _ _=>?_
 exact w ho⟩
instance i68 {m_0 x_1}:FI ktab 68 (zp m_0 x_1) [.val (rPtr zi) m_0,.val rMotionState x_1] (fun out=>[.val (rInt .i64) (out)]):=⟨fun out ho=>by
 delta zp at ho
 refine fn fun _ _=>?_
 exact w ho⟩
instance i43 {m_0 x_1 slope_2}:FI ktab 43 (zi2 m_0 x_1 slope_2) [.val (rPtr zi) m_0,.val rMotionState x_1,vI slope_2] (fun out=>[.val (rInt .i64) (out.1),.val rBool (out.2)]):=⟨fun out ho=>by
 delta zi2 at ho
 refine fn fun _ _=>?_
 refine run 10 ?_
 refine xal (zv:=.agg [.int .i64 0,.int .i64 0]) (es:=[vI (0),vI (0)]) (by kernel_rfl) fun b1=>?_
 refine run 7 ?_
 refine zt15 (X:=(MotionState)) (Y:=(Int)) (fun x=>[.val rMotionState (x)]) (fun y=>[.val (rInt .i64) (y)]) (f:=(fun x=>zt1 x slope_2)) (fun x y hf=>i67.ok _ hf) rfl (.n rfl) rfl rfl .n (.c (.t rfl) .n) ?_
 obtain ⟨y2,hy2,ho⟩:=bnd ho
 refine zg30 (zj6 hy2) rfl (.n rfl) rfl rfl rfl .f (.c (.t rfl) (.c (.t rfl) (.c (.t rfl) .n))) ?_
 intro b3
 refine run 2 ?_
 obtain ⟨t10,ht10,ho⟩:=bnd ho
 obtain ⟨t10,t10b⟩:=t10
 refine zx24 (σ:=(Int × Int)) (τ:=Unit) (X:=(MotionState)) (ins:=(fun x=>[.val rMotionState (x)])) (altO (fun s g=>[(.ptr b1 0,.box [vI (s.1),vI (s.2)])]) (fun _ _=>[])) (fun _=>none) (s0:=(x_1.1,x_1.2.1)) (r:=t10) [] [1] [0] [] rfl (.t rfl) rfl rfl rfl (by decide) (fun _=>rfl) (fun yv K hcb γ=>zp23 (zn21 (zs5 hcb ht10 b3 γ))) ?_ ?_
 ·clear ho ht10
  intro s7 g8 x4 r11 ho C
  refine run 1 ?_
  refine xal (zv:=.agg [.int .i64 0,.int .i64 0]) (es:=[vI (0),vI (0)]) (by kernel_rfl) fun b9=>?_
  refine run 1 ?_
  refine s_st (zj (R:=rMotionState) (a:=x4) 0 [9] (za (zb rfl) (za (zb rfl) ze rfl) rfl) rfl rfl ⟨rfl,trivial⟩) ?_
  refine s_nil (fun fr h s=>And.intro rfl (Exists.intro _ (Exists.intro _ (And.intro s (fun C=>?_)))))
  refine run 4 ?_
  cases ho; exact s_nil (fun fr h s=>And.intro rfl (Exists.intro [] (s.pick [0] trivial rfl (by decide))))
 ·clear ht10
  have hz:=bnd ho
  clear ho
  obtain ⟨b12,h19,ho⟩:=hz
  have h19:=zo23 h19
  subst h19
  intro g14
  refine st_wk (Γ':=[(0,.val (rPtr zi) (m_0)),(1,.val rMotionState (x_1)),(2,vI (slope_2)),(4,.val (rPtr rMotionState) (x_1)),(5,.val (rPtr (rInt .i64)) (slope_2)),(6,vI (0)),(7,vB (false)),(8,.raw (.ptr b1 0)),(10,.val rMotionState (x_1)),(11,.val (rPtr zi) (m_0)),(12,.val rMotionState (x_1)),(13,.val (rFn ktab (MotionState) (Int) (fun x=>[.val rMotionState (x)]) (fun y=>[.val (rInt .i64) (y)])) ((fun x=>zt1 x slope_2)))]) (L':=[(.ptr b1 0,.box [vI (b12.1),vI (b12.2)])]) [0] ⟨rfl,rfl,rfl,rfl,rfl,rfl,rfl,rfl,rfl,rfl,rfl,rfl,trivial⟩ rfl (by decide) ?_
  show ∀ fr h,St _ [(0,.val (rPtr zi) (m_0)),(1,.val rMotionState (x_1)),(2,vI (slope_2)),(4,.val (rPtr rMotionState) (x_1)),(5,.val (rPtr (rInt .i64)) (slope_2)),(6,vI (0)),(7,vB (false)),(8,.raw (.ptr b1 0)),(10,.val rMotionState (x_1)),(11,.val (rPtr zi) (m_0)),(12,.val rMotionState (x_1)),(13,.val (rFn ktab (MotionState) (Int) (fun x=>[.val rMotionState (x)]) (fun y=>[.val (rInt .i64) (y)])) ((fun x=>zt1 x slope_2)))] [(.ptr b1 0,.box [vI (b12.1),vI (b12.2)])] fr h → _
  show SRun ..
  refine run 1 ?_
  refine za3 [1,8] (by kernel_rfl) ?_
  refine run 1 ?_
  refine zz (R:=rMotionState) (a:=(b12.1,b12.2,())) 0 (fun _ h=>by cases h <;> rfl) U26 (za (zb rfl) (za (zb rfl) ze rfl) rfl) (.n rfl) rfl rfl (.t rfl) rfl ?_
  exact w ho⟩
instance i17 {t_0 x_1 slope_2 state_3}:FI ktab 17 (zw3 t_0 x_1 slope_2 state_3) [.val rTrain t_0,.val rMotionState x_1,vI slope_2,vI state_3] (fun out=>[.val (rInt .i64) (out.1),.val (rInt .i64) (out.2)]):=⟨fun out ho=>by
 delta zw3 at ho
 refine fn fun _ _=>?_
 refine run 13 ?_
 refine xcl ho ?_
 intro y1 hy1 ho
 show SOps ..
 refine run 12 ?_
 refine wct ho (fun hq2 ho=>?_) fun hq2 ho=>?_
 ·exact w ho
 ·refine run 6 ?_
  obtain ⟨p3,hp3,ho⟩:=bnd ho
  refine s_st (zo5 (n:=24) hp3 rfl) ?_
  exact w ho⟩
instance i19 {t_0 slope_1 state_2 distance_3}:FI ktab 19 (zp5 t_0 slope_1 state_2 distance_3) [.val rTrain t_0,vI slope_1,vI state_2,vI distance_3] (fun out=>[.val (rInt .i64) (out.1),.val (rInt .i64) (out.2)]):=⟨fun out ho=>by
 delta zp5 at ho
 refine fn fun _ _=>?_
 refine run 12 ?_
 refine xcl ho ?_
 intro y1 hy1 ho
 show SOps ..
 refine run 8 ?_
 obtain ⟨c4,hc4,ho⟩:=bnd ho
 refine wcx c4 [1,3,4,10] (fun t=>(.normal,fun _=>([(29,vB (t))],[]))) SEL ?_ fun _=>?_
 ·exact w hc4
 ·show SRun ..
  refine wct ho (fun hq7 ho=>?_) fun hq7 ho=>?_
  ·exact w ho
  ·refine run 9 ?_
   obtain ⟨t24,ht24,ho⟩:=bnd ho
   refine wlp ht24 [1,3,4,10] (fun s g=>([(12,vI (s))],[])) (altX (fun b=>(.exit 0,fun g=>([],[]))) (fun b=>(.ret,fun g=>([(8,vI (b.1)),(9,vI (b.2))],[])))) [] SEL (pk []) NE (fun s15 g16 _ ho=>?_) fun g25=>?_
   ·refine run 6 ?_
    refine wct ho (fun hq17 ho=>?_) fun hq17 ho=>?_
    ·refine run 12 ?_
     obtain ⟨p18,hp18,ho⟩:=bnd ho
     refine s_st (zo5 (n:=37) hp18 rfl) ?_
     refine xcl ho ?_
     intro y19 hy19 ho
     show SOps ..
     refine run 10 ?_
     refine wbr ho (fun hb21 ho=>?_) fun hb21 ho=>?_
     ·exact w ho
     ·refine run 5 ?_
      refine zh1 (.t rfl) (fun hq=>by cases hq) (fun _=>?_)
      exact w ho
    ·cases ho; exact zp1 (lf [] [])
   ·rcases t24 with b26 | b27
    ·have ho:=alt_l ho
     show SRun ..
     exact w ho
    ·have ho:=alt_r ho
     cases ho; exact id (zm (.inr rfl) (.v rfl (.v rfl .n)) (by decide))⟩
instance i85 {x_0 low_1 high_2}:FI ktab 85 (zw x_0 low_1 high_2) [vI x_0,vI low_1,vI high_2] (fun out=>[.val rBool (out)]):=⟨fun out ho=>by
 delta zw at ho
 refine fn fun _ _=>?_
 refine run 5 ?_
 obtain ⟨c2,hc2,ho⟩:=bnd ho
 refine wcx c2 [] (fun t=>(.normal,fun _=>([(6,vB (t))],[]))) SEL ?_ fun _=>?_
 ·exact w hc2
 ·show SRun ..
  cases ho; exact r_ret (zm (.inr rfl) (.v rfl .n) (by decide))⟩
instance i114 {s_0 f_1}:FI ktab 114 (zw1 s_0 f_1) [.val (rSlice rANode) s_0,.val (rFn ktab (ANode) (Bool) (fun x=>[.val rANode (x)]) (fun y=>[.val rBool (y)])) f_1] (fun out=>[.val (rInt .i64) (out)]):=⟨fun out ho=>by
 delta zw1 at ho
 refine fn fun _ _=>?_
 refine run 12 ?_
 obtain ⟨t11,ht11,ho⟩:=bnd ho
 refine wlp ht11 [0,1,7] (fun s g=>([(8,vI (s))],[])) (altX (fun b=>(.exit 0,fun g=>([],[]))) (fun b=>(.ret,fun g=>([(4,vI (b))],[])))) [] SEL (pk []) NE (fun s5 g6 _ ho=>?_) fun g12=>?_
 ·refine run 5 ?_
  refine wct ho (fun hq7 ho=>?_) fun hq7 ho=>?_
  ·refine run 13 ?_
   obtain ⟨x8,hx8,ho⟩:=bnd ho
   refine run 2 ?_
   obtain ⟨y9,hy9,ho⟩:=bnd ho
   refine zi11 (X:=(ANode)) (Y:=(Bool)) (f:=f_1) (x:=x8) hy9 (.n rfl) rfl rfl rfl (.t rfl) (.c (.t rfl) .n) ?_
   exact w ho
  ·cases ho; exact zp1 (lf [] [])
 ·rcases t11 with b13 | b14
  ·have ho:=alt_l ho
   show SRun ..
   exact w ho
  ·have ho:=alt_r ho
   cases ho; exact id (zm (.inr rfl) (.v rfl .n) (by decide))⟩
instance i100 {s_0 f_1}:FI ktab 100 (za1 s_0 f_1) [.val (rSlice rANode) s_0,.val (rFn ktab (ANode) (Bool) (fun x=>[.val rANode (x)]) (fun y=>[.val rBool (y)])) f_1] (fun out=>[.val rBool (out)]):=⟨fun out ho=>by
 delta za1 at ho
 refine fn fun _ _=>?_
 exact w ho⟩
instance i115 {s_0}:FI ktab 115 (zh5 s_0) [.val rSpot s_0] (fun out=>[.val rBool (out)]):=⟨fun out ho=>by
 delta zh5 at ho
 refine fn fun _ _=>?_
 refine run 6 ?_
 obtain ⟨c4,hc4,ho⟩:=bnd ho
 refine wcx c4 [] (fun t=>(.normal,fun _=>([(2,vB (t))],[]))) SEL ?_ fun _=>?_
 ·exact w hc4
 ·show SRun ..
  cases ho; exact r_ret (zm (.inr rfl) (.v rfl .n) (by decide))⟩
instance i116:FI ktab 116 (zg8) [] (fun out=>[.val (rArr 7 (rInt .i64)) (out)]):=⟨fun out ho=>by
 delta zg8 at ho
 refine fn fun _ _=>?_
 refine run 2 ?_
 refine xal (zv:=.agg [.int .i64 0,.int .i64 0,.int .i64 0,.int .i64 0,.int .i64 0,.int .i64 0,.int .i64 0]) (es:=[.raw (.int .i64 0),.raw (.int .i64 0),.raw (.int .i64 0),.raw (.int .i64 0),.raw (.int .i64 0),.raw (.int .i64 0),.raw (.int .i64 0)]) (by kernel_rfl) fun b1=>?_
 refine run 3 ?_
 refine zj21 (R:=(rInt .i64)) (zc:=[.int .i64 0,.int .i64 0,.int .i64 0,.int .i64 0,.int .i64 0,.int .i64 0,.int .i64 0]) 1 0 AR179 (by kernel_rfl) (by rfl) (fun _ j hj=>(match j,hj with | 0,_=>zint)) (.n rfl) rfl rfl (.c (.i (by decide) (by decide)) (.c (.i (by decide) (by decide)) (.c (.i (by decide) (by decide)) (.c (.i (by decide) (by decide)) (.c (.i (by decide) (by decide)) (.c (.i (by decide) (by decide)) .n)))))) (by rfl) ?_
 refine zj12 0 AR179 rfl (by rfl) (by decide) (.n rfl) rfl rfl (.t rfl) (.t rfl) (by rfl) ?_
 refine run 1 ?_
 cases ho; exact r_ret (zm (.inr rfl) (.a 0 AR179 rfl rfl .n) (by decide))⟩
instance i102 {n_0}:FI ktab 102 (zz7 n_0) [.val rANode n_0] (fun out=>[.val rBool (out)]):=⟨fun out ho=>by
 delta zz7 at ho
 refine fn fun _ _=>?_
 refine run 7 ?_
 obtain ⟨c13,hc13,ho⟩:=bnd ho
 refine wcx c13 [1] (fun t=>(.normal,fun _=>([(26,vB (t))],[]))) SEL ?_ fun _=>?_
 ·exact w hc13
 ·show SRun ..
  refine wct ho (fun hq20 ho=>?_) fun hq20 ho=>?_
  ·exact w ho
  ·refine run 3 ?_
   obtain ⟨c22,hc22,ho⟩:=bnd ho
   refine wcx c22 [1] (fun t=>(.normal,fun _=>([(34,vB (t))],[]))) SEL ?_ fun _=>?_
   ·exact w hc22
   ·show SRun ..
    exact w ho⟩
instance i101 {n_0}:FI ktab 101 (zl7 n_0) [.val rANode n_0] (fun out=>[.val rBool (out)]):=⟨fun out ho=>by
 delta zl7 at ho
 refine fn fun _ _=>?_
 exact w ho⟩
instance i117 {s_0 f_1}:FI ktab 117 (zx1 s_0 f_1) [.val (rSlice rRail) s_0,.val (rFn ktab (Rail) (Bool) (fun x=>[.val rRail (x)]) (fun y=>[.val rBool (y)])) f_1] (fun out=>[.val (rInt .i64) (out)]):=⟨fun out ho=>by
 delta zx1 at ho
 refine fn fun _ _=>?_
 refine run 12 ?_
 obtain ⟨t11,ht11,ho⟩:=bnd ho
 refine wlp ht11 [0,1,7] (fun s g=>([(8,vI (s))],[])) (altX (fun b=>(.exit 0,fun g=>([],[]))) (fun b=>(.ret,fun g=>([(4,vI (b))],[])))) [] SEL (pk []) NE (fun s5 g6 _ ho=>?_) fun g12=>?_
 ·refine run 5 ?_
  refine wct ho (fun hq7 ho=>?_) fun hq7 ho=>?_
  ·refine run 13 ?_
   obtain ⟨x8,hx8,ho⟩:=bnd ho
   refine run 2 ?_
   obtain ⟨y9,hy9,ho⟩:=bnd ho
   refine zi11 (X:=(Rail)) (Y:=(Bool)) (f:=f_1) (x:=x8) hy9 (.n rfl) rfl rfl rfl (.t rfl) (.c (.t rfl) .n) ?_
   exact w ho
  ·cases ho; exact zp1 (lf [] [])
 ·rcases t11 with b13 | b14
  ·have ho:=alt_l ho
   show SRun ..
   exact w ho
  ·have ho:=alt_r ho
   cases ho; exact id (zm (.inr rfl) (.v rfl .n) (by decide))⟩
instance i103 {s_0 f_1}:FI ktab 103 (zb1 s_0 f_1) [.val (rSlice rRail) s_0,.val (rFn ktab (Rail) (Bool) (fun x=>[.val rRail (x)]) (fun y=>[.val rBool (y)])) f_1] (fun out=>[.val rBool (out)]):=⟨fun out ho=>by
 delta zb1 at ho
 refine fn fun _ _=>?_
 exact w ho⟩
instance i118 {n_1}:FI ktab 118 (zu1 n_1) [.raw .nilslice,vI n_1] (fun out=>[.row rSpot (out)]):=⟨fun out ho=>by
 delta zu1 at ho
 refine fn fun _ _=>?_
 refine run 2 ?_
 refine zj2 (.n rfl) rfl rfl (.nil (R:=rSpot)) ?_
 refine run 7 ?_
 refine wct ho (fun hq1 ho=>?_) fun hq1 ho=>?_
 ·refine run 1 ?_
  cases ho
 ·refine run 6 ?_
  refine zu24 (et:=123) (by kernel_rfl) rfl (.n rfl) rfl rfl (.t rfl) ?_
  refine run 1 ?_
  refine s_st (zk21 rSpot (n:=11) rfl) ?_
  refine run 10 ?_
  refine wct ho (fun hq2 ho=>?_) fun hq2 ho=>?_
  ·refine run 3 ?_
   refine zu24 (et:=123) (by kernel_rfl) rfl (.n rfl) rfl rfl (.t rfl) ?_
   refine zu37 (et:=123) (n:=2) (by kernel_rfl) (by kernel_rfl) (.n rfl) rfl rfl (.t rfl) (.t rfl) ?_
   refine run 1 ?_
   obtain ⟨x3,hx3,ho⟩:=bnd ho
   refine zq41 S55 Y123 Z123 (by kernel_rfl) rfl hx3 rfl (.n rfl) rfl rfl (.t rfl) (.t rfl) rfl ?_
   intro v4
   refine run 1 ?_
   refine s_st (zk21 rSpot (n:=23) rfl) ?_
   refine run 1 ?_
   obtain ⟨x5,hx5,ho⟩:=bnd ho
   refine zr41 0 S55 (zt37 hx5) (.n rfl) rfl rfl (.t rfl) rfl (.t rfl) rfl ?_
   intro v6
   exact w ho
  ·refine run 6 ?_
   cases ho
   refine r_st (zj1 rSpot) ?_
   exact r_ret (zm (.inr rfl) (.r 0 rfl rfl .n) (by decide))⟩
instance i107 {slices_0}:FI ktab 107 (zn1 slices_0) [.val (rSlice (rSlice rSpot)) slices_0] (fun out=>[.row rSpot (out)]):=⟨fun out ho=>by
 delta zn1 at ho
 refine fn fun _ _=>?_
 refine run 2 ?_
 refine s_st (zj1 rSpot) ?_
 refine zj2 (.n rfl) rfl rfl .nilr ?_
 refine run 13 ?_
 obtain ⟨t9,ht9,ho⟩:=bnd ho
 refine wlp ht9 [0,9,10] (fun s g=>([(3,vI (s.1)),(11,vI (s.2))],[])) (fun b=>(.exit 0,fun g=>([(3,vI (b))],[]))) [] SEL (pk []) NE (fun s4 g5 _ ho=>?_) fun g10=>?_
 ·refine run 5 ?_
  refine wct ho (fun hq6 ho=>?_) fun hq6 ho=>?_
  ·refine run 5 ?_
   obtain ⟨x7,hx7,ho⟩:=bnd ho
   refine run 17 ?_
   refine wct ho (fun hq8 ho=>?_) fun hq8 ho=>?_
   ·refine run 1 ?_
    cases ho
   ·exact w ho
  ·cases ho; exact zp1 (lf [] [])
 ·show SRun ..
  refine run 3 ?_
  obtain ⟨y11,hy11,ho⟩:=bnd ho
  refine ze13 (i118.ok _ hy11) (.r (zs15 zp14 (zs15 zp14 zg21)) .n) rfl (.n rfl) rfl rfl rfl .f (.c (.o .nilr) (.c (.o (.t rfl)) .n)) ?_
  intro v12
  show SOps ..
  refine run 10 ?_
  obtain ⟨t23,ht23,ho⟩:=bnd ho
  refine wlp ht23 [25,26] (fun s g=>([(6,.raw ((gh g 0))),(27,vI (s.2))],[((gh g 0),.row rSpot (s.1))])) (fun b=>(.exit 2,fun g=>([(6,.raw ((gh g 0)))],[((gh g 0),.row rSpot (b))]))) [v12] SEL (pk [0]) NE (fun s17 g18 _ ho=>?_) fun g24=>?_
  ·refine run 5 ?_
   refine wct ho (fun hq19 ho=>?_) fun hq19 ho=>?_
   ·refine run 5 ?_
    obtain ⟨x20,hx20,ho⟩:=bnd ho
    refine run 7 ?_
    obtain ⟨x21,hx21,ho⟩:=bnd ho
    refine xap fun v22=>?_
    refine run 5 ?_
    cases ho; exact s_nil (lf [v22] [0])
   ·cases ho; exact zp1 (lf [(gh g18 0)] [0])
  ·show SRun ..
   exact w ho⟩
instance i81 {p_0 r_1}:FI ktab 81 (zb7 p_0 r_1) [.val rPlan p_0,.val rRail r_1] (fun out=>[.row rSpot (out)]):=⟨fun out ho=>by
 delta zb7 at ho
 refine fn fun _ _=>?_
 refine run 4 ?_
 refine s_st (zj1 rSpot) ?_
 refine zj2 (.n rfl) rfl rfl .nilr ?_
 refine run 7 ?_
 obtain ⟨x5,hx5,ho⟩:=bnd ho
 refine run 10 ?_
 obtain ⟨x6,hx6,ho⟩:=bnd ho
 refine run 5 ?_
 refine xcl ho ?_
 intro y7 hy7 ho v8
 exact w ho⟩
instance i108 {n_0}:FI ktab 108 (za8 n_0) [vI n_0] (fun out=>[.val (rInt .i64) (out)]):=⟨fun out ho=>by
 delta za8 at ho
 refine fn fun _ _=>?_
 refine run 7 ?_
 refine s_cif (by kernel_rfl) (by kernel_rfl) (.n rfl) rfl rfl (.t rfl) ?_
 obtain ⟨x1,hx1,ho⟩:=bnd ho
 refine zf41 (p:=sqrtP) rfl (zd34 hx1) (fun _=>zt24) (.n rfl) rfl rfl rfl .f (prim1 (.t rfl)) ?_
 obtain ⟨x2,hx2,ho⟩:=bnd ho
 refine s_cfi (by kernel_rfl) (by kernel_rfl) hx2 (.n rfl) rfl rfl (.t rfl) ?_
 refine run 4 ?_
 obtain ⟨t7,ht7,ho⟩:=bnd ho
 refine wlp ht7 [0] (fun s g=>([(3,vI (s))],[])) (fun b=>(.exit 0,fun g=>([(3,vI (b))],[]))) [] SEL (pk []) NE (fun s4 g5 _ ho=>?_) fun g8=>?_
 ·exact w ho
 ·show SRun ..
  refine run 2 ?_
  obtain ⟨t13,ht13,ho⟩:=bnd ho
  refine wlp ht13 [0] (fun s g=>([(3,vI (s))],[])) (fun b=>(.exit 2,fun g=>([(3,vI (b))],[]))) [] SEL (pk []) NE (fun s10 g11 _ ho=>?_) fun g14=>?_
  ·exact w ho
  ·show SRun ..
   exact w ho⟩
instance i82 {a_0 b_1}:FI ktab 82 (zl4 a_0 b_1) [.val rSpot a_0,.val rSpot b_1] (fun out=>[.val (rInt .i64) (out)]):=⟨fun out ho=>by
 delta zl4 at ho
 refine fn fun _ _=>?_
 exact w ho⟩
instance i105 {p_0 p_1}:FI ktab 105 (zb8 p_0 p_1) [.val rPlan p_0,.val rRail p_1] (fun out=>[.val rBool (out)]):=⟨fun out ho=>by
 delta zb8 at ho
 refine fn fun _ _=>?_
 refine run 8 ?_
 obtain ⟨c9,hc9,ho⟩:=bnd ho
 refine wcx c9 [2,3] (fun t=>(.normal,fun _=>([(43,vB (t))],[]))) SEL ?_ fun _=>?_
 ·exact w hc9
 ·show SRun ..
  refine wct ho (fun hq18 ho=>?_) fun hq18 ho=>?_
  ·exact w ho
  ·refine run 5 ?_
   refine xcl ho ?_
   intro y19 hy19 ho v20
   show SOps ..
   refine run 10 ?_
   obtain ⟨t71,ht71,ho⟩:=bnd ho
   refine wlp ht71 [5,47,48] (fun s g=>([(49,vI (s))],[(v20,.row rSpot (y19))])) (altX (fun b=>(.exit 0,fun g=>([],[]))) (fun b=>(.ret,fun g=>([(4,vB (b))],[])))) [] SEL (pk [0]) NE (fun s45 g46 _ ho=>?_) fun g72=>?_
   ·refine run 5 ?_
    refine wct ho (fun hq47 ho=>?_) fun hq47 ho=>?_
    ·refine run 6 ?_
     obtain ⟨x48,hx48,ho⟩:=bnd ho
     refine run 2 ?_
     refine xal (zv:=.agg [.int .i64 0,.int .i64 0]) (es:=[vI (0),vI (0)]) (by kernel_rfl) fun b49=>?_
     refine run 2 ?_
     refine s_st (zj (R:=rSpot) (a:=x48) 0 [7] (za (zb rfl) (za (zb rfl) ze rfl) rfl) rfl rfl ⟨rfl,trivial⟩) ?_
     refine run 2 ?_
     refine za3 [11] (by kernel_rfl) ?_
     refine run 1 ?_
     refine xcl ho ?_
     intro y62 hy62 ho
     show SOps ..
     refine run 2 ?_
     refine wbr ho (fun hb63 ho=>?_) fun hb63 ho=>?_
     ·refine run 15 ?_
      refine zh1 (.t rfl) (fun _=>?_) (fun hq=>by cases hq)
      exact w ho
     ·refine run 3 ?_
      refine wbr ho (fun hb65 ho=>?_) fun hb65 ho=>?_
      ·refine run 3 ?_
       obtain ⟨x66,hx66,ho⟩:=bnd ho
       refine run 3 ?_
       refine xcl ho ?_
       intro y67 hy67 ho
       show SOps ..
       refine xcl ho ?_
       intro y68 hy68 ho
       show SOps ..
       refine run 4 ?_
       refine wct ho (fun hq69 ho=>?_) fun hq69 ho=>?_
       ·exact w ho
       ·refine run 4 ?_
        cases ho; exact s_nil (lf [] [0])
      ·refine run 12 ?_
       refine zh1 (.t rfl) (fun hq=>by cases hq) (fun _=>?_)
       refine run 4 ?_
       cases ho; exact s_nil (lf [] [0])
    ·cases ho; exact zp1 (lf [] [])
   ·rcases t71 with b73 | b74
    ·have ho:=alt_l ho
     show SRun ..
     exact w ho
    ·have ho:=alt_r ho
     cases ho; exact id (zm (.inr rfl) (.v rfl .n) (by decide))⟩
instance i104 {r_0 p_1}:FI ktab 104 (zu5 r_0 p_1) [.val rRail r_0,.val (rPtr rPlan) p_1] (fun out=>[.val rBool (out)]):=⟨fun out ho=>by
 delta zu5 at ho
 refine fn fun _ _=>?_
 exact w ho⟩
instance i106 {p_0 e_1}:FI ktab 106 (zb4 p_0 e_1) [.val rPlan p_0,.val rRailEnd e_1] (fun out=>[.val (rInt .i64) (out)]):=⟨fun out ho=>by
 delta zb4 at ho
 refine fn fun _ _=>?_
 exact w ho⟩
instance i80 {p_0}:FI ktab 80 (zm7 p_0) [.val rPlan p_0] (fun out=>[.val (rInt .i64) (out)]):=⟨fun out ho=>by
 delta zm7 at ho
 refine fn fun _ _=>?_
 refine run 7 ?_
 obtain ⟨c4,hc4,ho⟩:=bnd ho
 refine wcx c4 [1] (fun t=>(.normal,fun _=>([(19,vB (t))],[]))) SEL ?_ fun _=>?_
 ·exact w hc4
 ·show SRun ..
  refine wct ho (fun hq8 ho=>?_) fun hq8 ho=>?_
  ·exact w ho
  ·refine run 3 ?_
   obtain ⟨c12,hc12,ho⟩:=bnd ho
   refine wcx c12 [1] (fun t=>(.normal,fun _=>([(28,vB (t))],[]))) SEL ?_ fun _=>?_
   ·have ho:=hc12
    refine run 3 ?_
    obtain ⟨y13,hy13,ho⟩:=bnd ho
    refine ze13 (i100.ok _ hy13) (.v zr15 .n) rfl (.n rfl) rfl rfl rfl .f (.c (.o (.t rfl)) (.c (.o (.fv (zi12 (fun x y hf=>i101.ok _ hf) rfl))) .n)) ?_
    show SOps ..
    refine run 1 ?_
    refine wbr ho (fun hb14 ho=>?_) fun hb14 ho=>?_
    ·exact w ho
    ·refine run 2 ?_
     refine zt15 (X:=(Rail)) (Y:=(Bool)) (fun x=>[.val rRail (x)]) (fun y=>[.val rBool (y)]) (f:=(fun x=>zu5 x p_0)) (fun x y hf=>i104.ok _ hf) rfl (.g rfl rfl (gf0 hb14)) rfl rfl .n (.c (.t rfl) .n) ?_
     exact w ho
   ·show SRun ..
    refine wct ho (fun hq16 ho=>?_) fun hq16 ho=>?_
    ·exact w ho
    ·refine run 3 ?_
     refine zp29 rBool MP170 rfl (.n rfl) rfl rfl ?_
     intro b17
     refine run 11 ?_
     obtain ⟨t173,ht173,ho⟩:=bnd ho
     refine wlp ht173 [] (fun s g=>([(1,.val (rPtr rPlan) (p_0)),(3,.raw (.map b17)),(31,.val (rSlice rANode) (p_0.1)),(32,vI ((lenI p_0.1))),(33,vI (s.1))],[(.map b17,.mp rRailEnd rBool (s.2))])) (altX (fun b=>(.exit 0,fun g=>([(1,.val (rPtr rPlan) (p_0)),(3,.raw (.map b17))],[(.map b17,.mp rRailEnd rBool (b))]))) (fun b=>(.ret,fun g=>([(2,vI (b))],[])))) [] SEL (pk [0]) NE (fun s120 g121 _ ho=>?_) fun g174=>?_
     ·refine run 5 ?_
      refine wct ho (fun hq122 ho=>?_) fun hq122 ho=>?_
      ·refine run 6 ?_
       obtain ⟨x123,hx123,ho⟩:=bnd ho
       refine run 2 ?_
       refine xal (zv:=.agg [.int .i64 0,.int .i64 0,.int .i64 0,.nilslice,.int .i64 0]) (es:=[vI (0),vI (0),vI (0),.val (rSlice rRailEnd) ([]),vI (0)]) (by kernel_rfl) fun b124=>?_
       refine run 2 ?_
       refine s_st (zj (R:=rANode) (a:=x123) 0 [5] (za (za (zb rfl) (za (zb rfl) ze rfl) rfl) (za (zb rfl) (za (zb rfl) (za (zb rfl) ze rfl) rfl) rfl) rfl) rfl rfl ⟨rfl,trivial⟩) ?_
       refine run 9 ?_
       obtain ⟨t169,ht169,ho⟩:=bnd ho
       refine wlp ht169 [1,3,4,31,32,33,39,40] (fun s g=>([(41,vI (s.1))],[(.map b17,.mp rRailEnd rBool (s.2))])) (altX (fun b=>(.exit 2,fun g=>([],[(.map b17,.mp rRailEnd rBool (b))]))) (fun b=>(.ret,fun g=>([(2,vI (b.1))],[])))) [] SEL (pk [0]) NE (fun s153 g154 _ ho=>?_) fun g170=>?_
       ·refine run 5 ?_
        refine wct ho (fun hq155 ho=>?_) fun hq155 ho=>?_
        ·refine run 5 ?_
         obtain ⟨x156,hx156,ho⟩:=bnd ho
         refine run 2 ?_
         refine xal (zv:=.agg [.int .i64 0,.bool false]) (es:=[vI (0),vB (false)]) (by kernel_rfl) fun b157=>?_
         refine run 1 ?_
         refine s_st (zj (R:=rRailEnd) (a:=x156) 0 [7] (za (zb rfl) (za (zb rfl) ze rfl) rfl) rfl rfl ⟨rfl,trivial⟩) ?_
         refine run 10 ?_
         refine xcl ho ?_
         intro y162 hy162 ho
         show SOps ..
         refine run 2 ?_
         refine wbr ho (fun hb163 ho=>?_) fun hb163 ho=>?_
         ·refine run 12 ?_
          refine zh1 (.t rfl) (fun _=>?_) (fun hq=>by cases hq)
          exact w ho
         ·refine run 2 ?_
          refine zo41 0 rfl MP170 Z4 rfl (.g rfl rfl (gf0 hb163)) rfl rfl (.t rfl) (.t rfl) ?_
          refine run 2 ?_
          refine wbr ho (fun hb165 ho=>?_) fun hb165 ho=>?_
          ·refine run 7 ?_
           refine zh1 (.t rfl) (fun _=>?_) (fun hq=>by cases hq)
           exact w ho
          ·refine run 2 ?_
           refine xcl ho ?_
           intro y167 hy167 ho
           show SOps ..
           refine run 4 ?_
           refine wct ho (fun hq168 ho=>?_) fun hq168 ho=>?_
           ·exact w ho
           ·refine run 4 ?_
            refine zs24 0 MP170 (.inl rfl) rfl (.n rfl) rfl (.t rfl) (.t rfl) .b rfl ?_
            refine run 4 ?_
            cases ho; exact s_nil (lf [] [0])
        ·cases ho; exact zp1 (lf [] [0])
       ·rcases t169 with b171 | b172
        ·have ho:=alt_l ho
         show SRun ..
         refine run 3 ?_
         cases ho; exact s_nil (lf [] [0])
        ·have ho:=alt_r ho
         cases ho; exact id (lf [] [])
      ·cases ho; exact zp1 (lf [] [0])
     ·rcases t173 with b175 | b176
      ·have ho:=alt_l ho
       show SRun ..
       refine run 4 ?_
       obtain ⟨x177,hx177,ho⟩:=bnd ho
       refine zs41 (st:=170) (kt:=120) (et:=4) 0 rfl (by kernel_rfl) hx177 rfl rfl (.n rfl) rfl rfl (.t rfl) ?_
       exact w ho
      ·have ho:=alt_r ho
       cases ho; exact id (zm (.inr rfl) (.v rfl .n) (by decide))⟩
end Go.Ai.TabYtcokdbcdlaofbaaGreat
