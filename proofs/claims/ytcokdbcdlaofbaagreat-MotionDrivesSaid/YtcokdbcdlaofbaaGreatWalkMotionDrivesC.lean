/- Written by program: walks through functions. -/
import Derived.Test.YtcokdbcdlaofbaaGreatWalkMotionDrivesP0C
set_option linter.unusedSimpArgs false
set_option linter.unusedVariables false
set_option linter.unusedSectionVars false
namespace Go.Ai.TabYtcokdbcdlaofbaaGreat
open Go Go.Ai Go.Ai.Sx Go.Proofs
attribute [local irreducible] SOps
set_option maxRecDepth 100000
set_option maxHeartbeats 4000000
instance i37 {p_0 p_1 p_2 p_3 p_4}:FI ktab 37 (zp7 p_0 p_1 p_2 p_3 p_4) [.val rPlan p_0,.val (rSlice rAMove) p_1,.val rTrain p_2,vI p_3,.val (rSlice (rInt .i64)) p_4] (fun out=>[.row rLeg (out.1),.val rBool (out.2)]):=⟨fun out ho=>by
 delta zp7 at ho
 refine fn fun _ _=>?_
 refine run 4 ?_
 refine s_st (zj1 rLeg) ?_
 refine zj2 (.n rfl) rfl rfl .nilr ?_
 refine run 8 ?_
 obtain ⟨x3,hx3,ho⟩:=bnd ho
 refine run 4 ?_
 refine xal (zv:=.agg [.int .i64 0,.int .i64 0]) (es:=[vI (0),vI (0)]) (by kernel_rfl) fun b4=>?_
 refine run 4 ?_
 refine s_st (zj1 rLeg) ?_
 refine zj2 (.n rfl) rfl rfl .nilr ?_
 refine run 7 ?_
 obtain ⟨t421,ht421,ho⟩:=bnd ho
 refine wlp ht421 [] (fun s g=>([(1,.val (rSlice rAMove) (p_1)),(3,vI (p_3)),(4,.val (rSlice (rInt .i64)) (p_4)),(5,.val (rPtr rPlan) (p_0)),(7,.val (rPtr rTrain) (p_2)),(12,.raw (.ptr b4 0)),(13,.raw ((gh g 0))),(14,vI (s.2.1))],[(.ptr b4 0,.box [vI (s.2.2.1),vI (s.2.2.2)]),((gh g 0),.row rLeg (s.1))])) (altX (fun b=>(.exit 0,fun g=>([(12,.raw (.ptr b4 0)),(13,.raw ((gh g 0)))],[(.ptr b4 0,.box [vI (b.2.1),vI (b.2.2)]),((gh g 0),.row rLeg (b.1))]))) (fun b=>(.ret,fun g=>([(10,.raw ((gh g 0))),(11,vB (b.2))],[((gh g 0),.row rLeg (b.1))])))) [.nilslice] SEL (pk [1,0]) NE (fun s281 g282 _ ho=>?_) fun g422=>?_
 ·refine run 8 ?_
  refine wct ho (fun hq283 ho=>?_) fun hq283 ho=>?_
  ·refine run 11 ?_
   obtain ⟨x286,hx286,ho⟩:=bnd ho
   refine run 3 ?_
   refine xal (zv:=.agg [.nilslice,.nilslice,.nilslice,.int .i64 0,.int .i64 0,.int .i64 0,.int .i64 0,.int .i64 0,.int .i64 0,.int .i64 0,.int .i64 0,.int .i64 0,.nilslice,.int .i64 0,.int .i64 0]) (es:=[.val (rSlice rANode) ([]),.val (rSlice rRail) ([]),.val (rSlice rAMove) ([]),vI (0),vI (0),vI (0),vI (0),vI (0),vI (0),vI (0),vI (0),vI (0),.val (rSlice (rInt .i64)) ([]),vI (0),vI (0)]) (by kernel_rfl) fun b287=>?_
   refine run 1 ?_
   refine s_st (zj (R:=zq) (a:=((p_0,p_1,p_2,p_3,x286,()):zi1)) 0 [15] (za (za (zb rfl) (za (zb rfl) ze rfl) rfl) (za (zb rfl) (za (za (zb rfl) (za (zb rfl) (za (zb rfl) (za (zb rfl) (za (zb rfl) (za (zb rfl) (za (zb rfl) (za (zb rfl) (za (zb rfl) (za (zb rfl) ze rfl) rfl) rfl) rfl) rfl) rfl) rfl) rfl) rfl) rfl) (za (zb rfl) (za (zb rfl) ze rfl) rfl) rfl) rfl) rfl) rfl rfl ⟨rfl,trivial⟩) ?_
   refine run 3 ?_
   refine xal (zv:=.agg [.int .i64 0,.int .i64 0,.int .i64 0,.int .i64 0,.int .i64 0,.int .i64 0,.int .i64 0,.int .i64 0,.int .i64 0,.int .i64 0]) (es:=[vI (0),vI (0),vI (0),vI (0),vI (0),vI (0),vI (0),vI (0),vI (0),vI (0)]) (by kernel_rfl) fun b288=>?_
   refine run 7 ?_
   obtain ⟨t414,ht414,ho⟩:=bnd ho
   refine wlp ht414 [1,3,4,5,7,12,13,14,15,16] (fun s g=>([(17,vI (s.1))],[(.ptr b288 0,.box [vI (s.2.1),vI (0),vI (s.2.2.1),vI (s.2.2.2.1),vI (s.2.2.2.2.1),vI (s.2.2.2.2.2.1),vI (s.2.2.2.2.2.2.1),vI (s.2.2.2.2.2.2.2.1),vI (s.2.2.2.2.2.2.2.2.1),vI (s.2.2.2.2.2.2.2.2.2.1)]),(.ptr b4 0,.box [vI (s.2.2.2.2.2.2.2.2.2.2.1),vI (s.2.2.2.2.2.2.2.2.2.2.2)]),((gh g282 0),.row rLeg (s281.1))])) (altX (fun b=>(.exit 2,fun g=>([(53,.val rTrain (b.1)),(54,.val rMotionState (b.2.1)),(55,vI (b.2.2.1)),(56,.val (rSlice (rInt .i64)) (b.2.2.2.1)),(57,vI (b.2.2.2.2.1)),(58,.val (rPtr (rInt .i64)) (b.2.2.2.2.2.1)),(59,vI (b.2.2.2.2.2.2.1)),(60,vI (b.2.2.2.2.2.2.2.1)),(61,vB (b.2.2.2.2.2.2.2.2.1))],[(.ptr b288 0,.box [vI (b.2.2.2.2.2.2.2.2.2.1),vI (0),vI (b.2.2.2.2.2.2.2.2.2.2.1),vI (b.2.2.2.2.2.2.2.2.2.2.2.1),vI (b.2.2.2.2.2.2.2.2.2.2.2.2.1),vI (b.2.2.2.2.2.2.2.2.2.2.2.2.2.1),vI (b.2.2.2.2.2.2.2.2.2.2.2.2.2.2.1),vI (b.2.2.2.2.2.2.2.2.2.2.2.2.2.2.2.1),vI (b.2.2.2.2.2.2.2.2.2.2.2.2.2.2.2.2.1),vI (b.2.2.2.2.2.2.2.2.2.2.2.2.2.2.2.2.2.1)]),(.ptr b4 0,.box [vI (b.2.2.2.2.2.2.2.2.2.2.2.2.2.2.2.2.2.2.1),vI (b.2.2.2.2.2.2.2.2.2.2.2.2.2.2.2.2.2.2.2)]),((gh g282 0),.row rLeg (s281.1))]))) (fun b=>(.ret,fun g=>([(10,.raw ((gh g 0))),(11,vB (b.2.1))],[((gh g 0),.row rLeg (b.1))])))) [] SEL (pk [0,1,2]) NE (fun s371 g372 _ ho=>?_) fun g415=>?_
   ·refine run 2 ?_
    refine za3 [1,5] (by kernel_rfl) ?_
    refine run 4 ?_
    refine wbr ho (fun hb379 ho=>?_) fun hb379 ho=>?_
    ·refine run 11 ?_
     refine zh1 (.t rfl) (fun _=>?_) (fun hq=>by cases hq)
     refine run 9 ?_
     refine wbr ho (fun hb382 ho=>?_) fun hb382 ho=>?_
     ·refine run 5 ?_
      refine zh1 (.t rfl) (fun _=>?_) (fun hq=>by cases hq)
      refine run 2 ?_
      refine s_st (zj1 rLeg) ?_
      refine zj2 (.n rfl) rfl rfl .nilr ?_
      refine run 2 ?_
      cases ho; exact r_ret (lf [.nilslice] [0])
     ·refine run 5 ?_
      refine wct ho (fun hq384 ho=>?_) fun hq384 ho=>?_
      ·refine run 2 ?_
       refine s_st (zj1 rLeg) ?_
       refine zj2 (.n rfl) rfl rfl .nilr ?_
       refine run 2 ?_
       cases ho; exact r_ret (lf [.nilslice] [0])
      ·refine run 4 ?_
       refine zz (R:=rMotionState) (a:=(s371.2.2.2.2.2.2.2.2.2.2.1,s371.2.2.2.2.2.2.2.2.2.2.2,())) 1 (fun _ h=>by cases h <;> rfl) U26 (za (zb rfl) (za (zb rfl) ze rfl) rfl) (.n rfl) rfl rfl (.t rfl) rfl ?_
       refine xcl ho ?_
       intro y385 hy385 ho
       show SOps ..
       refine run 12 ?_
       refine wct ho (fun hq386 ho=>?_) fun hq386 ho=>?_
       ·refine run 2 ?_
        refine s_st (zj1 rLeg) ?_
        refine zj2 (.n rfl) rfl rfl .nilr ?_
        refine run 2 ?_
        cases ho; exact r_ret (lf [.nilslice] [0])
       ·refine run 2 ?_
        refine za3 [2] (by kernel_rfl) ?_
        refine run 2 ?_
        refine zz (R:=rMotionState) (a:=(s371.2.2.2.2.2.2.2.2.2.2.1,s371.2.2.2.2.2.2.2.2.2.2.2,())) 1 (fun _ h=>by cases h <;> rfl) U26 (za (zb rfl) (za (zb rfl) ze rfl) rfl) (.n rfl) rfl rfl (.t rfl) rfl ?_
        refine xcl ho ?_
        intro y389 hy389 ho
        show SOps ..
        refine xcl ho ?_
        intro y390 hy390 ho
        show SOps ..
        refine run 5 ?_
        refine zz (R:=rMotionState) (a:=(s371.2.2.2.2.2.2.2.2.2.2.1,s371.2.2.2.2.2.2.2.2.2.2.2,())) 1 (fun _ h=>by cases h <;> rfl) U26 (za (zb rfl) (za (zb rfl) ze rfl) rfl) (.n rfl) rfl rfl (.t rfl) rfl ?_
        refine run 3 ?_
        refine xcl ho ?_
        intro y391 hy391 ho
        show SOps ..
        refine run 9 ?_
        refine zz (R:=rMotionState) (a:=(s371.2.2.2.2.2.2.2.2.2.2.1,s371.2.2.2.2.2.2.2.2.2.2.2,())) 1 (fun _ h=>by cases h <;> rfl) U26 (za (zb rfl) (za (zb rfl) ze rfl) rfl) (.n rfl) rfl rfl (.t rfl) rfl ?_
        refine run 3 ?_
        refine xcl ho ?_
        intro y392 hy392 ho
        show SOps ..
        refine run 4 ?_
        refine xal (zv:=.agg [.int .i64 0,.int .i64 0]) (es:=[vI (0),vI (0)]) (by kernel_rfl) fun b393=>?_
        refine xal (zv:=.agg [.int .i64 0,.int .i64 0,.int .i64 0,.int .i64 0,.int .i64 0,.int .i64 0]) (es:=[vI (0),vI (0),vI (0),vI (0),vI (0),vI (0)]) (by kernel_rfl) fun b394=>?_
        refine run 1 ?_
        refine s_st (zj (R:=rMotionState) (a:=y392.1) 1 [23] (za (zb rfl) (za (zb rfl) ze rfl) rfl) rfl rfl ⟨rfl,trivial⟩) ?_
        refine run 1 ?_
        refine s_st (zj (R:=rMotionLedger) (a:=y392.2.1) 0 [24] (za (zb rfl) (za (zb rfl) (za (zb rfl) (za (zb rfl) (za (zb rfl) (za (zb rfl) ze rfl) rfl) rfl) rfl) rfl) rfl) rfl rfl ⟨rfl,trivial⟩) ?_
        refine run 32 ?_
        refine zo14 (R:=rMotionLedger) (a:=(s371.2.2.1,s371.2.2.2.1,s371.2.2.2.2.1,s371.2.2.2.2.2.1,s371.2.2.2.2.2.2.1,s371.2.2.2.2.2.2.2.1,())) (off:=2) 0 (fun _ h=>by cases h <;> rfl) U31 (za (zb rfl) (za (zb rfl) (za (zb rfl) (za (zb rfl) (za (zb rfl) (za (zb rfl) ze rfl) rfl) rfl) rfl) rfl) rfl) (by exact Nat.le_of_ble_eq_true rfl) (.n rfl) rfl rfl (.t rfl) rfl ?_
        refine run 1 ?_
        refine xcl ho ?_
        intro y395 hy395 ho
        show SOps ..
        refine run 1 ?_
        refine zg9 (off:=2) (es':=[vI (y395.1),vI (y395.2.1),vI (y395.2.2.1),vI (y395.2.2.2.1),vI (y395.2.2.2.2.1),vI (y395.2.2.2.2.2.1)]) 0 U31 rfl (za (zb rfl) (za (zb rfl) (za (zb rfl) (za (zb rfl) (za (zb rfl) (za (zb rfl) ze rfl) rfl) rfl) rfl) rfl) rfl) (by exact Nat.le_of_ble_eq_true rfl) (.n rfl) rfl rfl (.t rfl) (.t rfl) (by rfl) ?_
        refine run 5 ?_
        cases ho; exact s_nil (lf [] [0,1,2])
    ·refine run 1 ?_
     refine zz (R:=rMotionState) (a:=(s371.2.2.2.2.2.2.2.2.2.2.1,s371.2.2.2.2.2.2.2.2.2.2.2,())) 1 (fun _ h=>by cases h <;> rfl) U26 (za (zb rfl) (za (zb rfl) ze rfl) rfl) (.g rfl rfl (gf0 hb379)) rfl rfl (.t rfl) rfl ?_
     refine xcl ho ?_
     intro y396 hy396 ho
     show SOps ..
     refine run 2 ?_
     obtain ⟨x397,hx397,ho⟩:=bnd ho
     refine run 6 ?_
     refine wct ho (fun hq398 ho=>?_) fun hq398 ho=>?_
     ·refine run 9 ?_
      refine wbr ho (fun hb400 ho=>?_) fun hb400 ho=>?_
      ·refine run 5 ?_
       refine zh1 (.t rfl) (fun _=>?_) (fun hq=>by cases hq)
       refine run 2 ?_
       refine s_st (zj1 rLeg) ?_
       refine zj2 (.n rfl) rfl rfl .nilr ?_
       refine run 2 ?_
       cases ho; exact r_ret (lf [.nilslice] [0])
      ·refine run 5 ?_
       refine wct ho (fun hq402 ho=>?_) fun hq402 ho=>?_
       ·refine run 2 ?_
        refine s_st (zj1 rLeg) ?_
        refine zj2 (.n rfl) rfl rfl .nilr ?_
        refine run 2 ?_
        cases ho; exact r_ret (lf [.nilslice] [0])
       ·refine run 4 ?_
        refine zz (R:=rMotionState) (a:=(s371.2.2.2.2.2.2.2.2.2.2.1,s371.2.2.2.2.2.2.2.2.2.2.2,())) 1 (fun _ h=>by cases h <;> rfl) U26 (za (zb rfl) (za (zb rfl) ze rfl) rfl) (.n rfl) rfl rfl (.t rfl) rfl ?_
        refine xcl ho ?_
        intro y403 hy403 ho
        show SOps ..
        refine run 12 ?_
        refine wct ho (fun hq404 ho=>?_) fun hq404 ho=>?_
        ·refine run 2 ?_
         refine s_st (zj1 rLeg) ?_
         refine zj2 (.n rfl) rfl rfl .nilr ?_
         refine run 2 ?_
         cases ho; exact r_ret (lf [.nilslice] [0])
        ·refine run 2 ?_
         refine za3 [2] (by kernel_rfl) ?_
         refine run 2 ?_
         refine zz (R:=rMotionState) (a:=(s371.2.2.2.2.2.2.2.2.2.2.1,s371.2.2.2.2.2.2.2.2.2.2.2,())) 1 (fun _ h=>by cases h <;> rfl) U26 (za (zb rfl) (za (zb rfl) ze rfl) rfl) (.n rfl) rfl rfl (.t rfl) rfl ?_
         refine xcl ho ?_
         intro y407 hy407 ho
         show SOps ..
         refine xcl ho ?_
         intro y408 hy408 ho
         show SOps ..
         refine run 5 ?_
         refine zz (R:=rMotionState) (a:=(s371.2.2.2.2.2.2.2.2.2.2.1,s371.2.2.2.2.2.2.2.2.2.2.2,())) 1 (fun _ h=>by cases h <;> rfl) U26 (za (zb rfl) (za (zb rfl) ze rfl) rfl) (.n rfl) rfl rfl (.t rfl) rfl ?_
         refine run 3 ?_
         refine xcl ho ?_
         intro y409 hy409 ho
         show SOps ..
         refine run 9 ?_
         refine zz (R:=rMotionState) (a:=(s371.2.2.2.2.2.2.2.2.2.2.1,s371.2.2.2.2.2.2.2.2.2.2.2,())) 1 (fun _ h=>by cases h <;> rfl) U26 (za (zb rfl) (za (zb rfl) ze rfl) rfl) (.n rfl) rfl rfl (.t rfl) rfl ?_
         refine run 3 ?_
         refine xcl ho ?_
         intro y410 hy410 ho
         show SOps ..
         refine run 4 ?_
         refine xal (zv:=.agg [.int .i64 0,.int .i64 0]) (es:=[vI (0),vI (0)]) (by kernel_rfl) fun b411=>?_
         refine xal (zv:=.agg [.int .i64 0,.int .i64 0,.int .i64 0,.int .i64 0,.int .i64 0,.int .i64 0]) (es:=[vI (0),vI (0),vI (0),vI (0),vI (0),vI (0)]) (by kernel_rfl) fun b412=>?_
         refine run 1 ?_
         refine s_st (zj (R:=rMotionState) (a:=y410.1) 1 [23] (za (zb rfl) (za (zb rfl) ze rfl) rfl) rfl rfl ⟨rfl,trivial⟩) ?_
         refine run 1 ?_
         refine s_st (zj (R:=rMotionLedger) (a:=y410.2.1) 0 [24] (za (zb rfl) (za (zb rfl) (za (zb rfl) (za (zb rfl) (za (zb rfl) (za (zb rfl) ze rfl) rfl) rfl) rfl) rfl) rfl) rfl rfl ⟨rfl,trivial⟩) ?_
         refine run 32 ?_
         refine zo14 (R:=rMotionLedger) (a:=(s371.2.2.1,s371.2.2.2.1,s371.2.2.2.2.1,s371.2.2.2.2.2.1,s371.2.2.2.2.2.2.1,s371.2.2.2.2.2.2.2.1,())) (off:=2) 0 (fun _ h=>by cases h <;> rfl) U31 (za (zb rfl) (za (zb rfl) (za (zb rfl) (za (zb rfl) (za (zb rfl) (za (zb rfl) ze rfl) rfl) rfl) rfl) rfl) rfl) (by exact Nat.le_of_ble_eq_true rfl) (.n rfl) rfl rfl (.t rfl) rfl ?_
         refine run 1 ?_
         refine xcl ho ?_
         intro y413 hy413 ho
         show SOps ..
         refine run 1 ?_
         refine zg9 (off:=2) (es':=[vI (y413.1),vI (y413.2.1),vI (y413.2.2.1),vI (y413.2.2.2.1),vI (y413.2.2.2.2.1),vI (y413.2.2.2.2.2.1)]) 0 U31 rfl (za (zb rfl) (za (zb rfl) (za (zb rfl) (za (zb rfl) (za (zb rfl) (za (zb rfl) ze rfl) rfl) rfl) rfl) rfl) rfl) (by exact Nat.le_of_ble_eq_true rfl) (.n rfl) rfl rfl (.t rfl) (.t rfl) (by rfl) ?_
         refine run 5 ?_
         cases ho; exact s_nil (lf [] [0,1,2])
     ·cases ho; exact zp1 (lf [] [0,1,2])
   ·rcases t414 with b416 | b417
    ·have ho:=alt_l ho
     show SRun ..
     refine run 3 ?_
     refine zz (R:=rMotionState) (a:=(b416.2.2.2.2.2.2.2.2.2.2.2.2.2.2.2.2.2.2.1,b416.2.2.2.2.2.2.2.2.2.2.2.2.2.2.2.2.2.2.2,())) 1 (fun _ h=>by cases h <;> rfl) U26 (za (zb rfl) (za (zb rfl) ze rfl) rfl) (.n rfl) rfl rfl (.t rfl) rfl ?_
     refine xcl ho ?_
     intro y418 hy418 ho
     show SOps ..
     refine run 5 ?_
     refine zz (R:=rLeg) (a:=(b416.2.2.2.2.2.2.2.2.2.1,y418,(b416.2.2.2.2.2.2.2.2.2.2.1,b416.2.2.2.2.2.2.2.2.2.2.2.1,b416.2.2.2.2.2.2.2.2.2.2.2.2.1,b416.2.2.2.2.2.2.2.2.2.2.2.2.2.1,b416.2.2.2.2.2.2.2.2.2.2.2.2.2.2.1,b416.2.2.2.2.2.2.2.2.2.2.2.2.2.2.2.1,()),b416.2.2.2.2.2.2.2.2.2.2.2.2.2.2.2.2.1,b416.2.2.2.2.2.2.2.2.2.2.2.2.2.2.2.2.2.1,())) 0 (fun _ h=>by cases h <;> rfl) U61 (za (zb rfl) (za (zb rfl) (za (za (zb rfl) (za (zb rfl) (za (zb rfl) (za (zb rfl) (za (zb rfl) (za (zb rfl) ze rfl) rfl) rfl) rfl) rfl) rfl) (za (zb rfl) (za (zb rfl) ze rfl) rfl) rfl) rfl) rfl) (.n rfl) rfl rfl (.t rfl) rfl ?_
     refine run 1 ?_
     obtain ⟨x419,hx419,ho⟩:=bnd ho
     refine xap fun v420=>?_
     refine run 6 ?_
     cases ho; exact s_nil (lf [v420] [2,0])
    ·have ho:=alt_r ho
     cases ho; exact id (lf [(gh g415 0)] [0])
  ·cases ho; exact zp1 (lf [(gh g282 0)] [0,1])
 ·rcases t421 with b423 | b424
  ·have ho:=alt_l ho
   show SRun ..
   refine run 1 ?_
   refine za3 [2] (by kernel_rfl) ?_
   exact w ho
  ·have ho:=alt_r ho
   cases ho; exact id (zm (.inr rfl) (.r 0 rfl rfl (.v rfl .n)) (by decide))⟩
instance i12 {p_0 p_1 p_2 p_3 p_4}:FI ktab 12 (zb5 p_0 p_1 p_2 p_3 p_4) [.val rPlan p_0,.val (rSlice rAMove) p_1,.val rTrain p_2,vI p_3,.val (rSlice (rInt .i64)) p_4] (fun out=>[.val rBool (out)]):=⟨fun out ho=>by
 delta zb5 at ho
 refine fn fun _ _=>?_
 refine run 13 ?_
 refine xcl ho ?_
 intro y1 hy1 ho
 show SOps ..
 refine run 2 ?_
 refine wct ho (fun hq2 ho=>?_) fun hq2 ho=>?_
 ·exact w ho
 ·refine run 8 ?_
  refine xcl ho ?_
  intro y4 hy4 ho v5
  show SOps ..
  refine run 13 ?_
  refine xcl ho ?_
  intro y6 hy6 ho v7
  show SOps ..
  refine run 14 ?_
  refine xcl ho ?_
  intro y8 hy8 ho
  show SOps ..
  refine run 2 ?_
  refine wct ho (fun hq9 ho=>?_) fun hq9 ho=>?_
  ·refine run 1 ?_
   obtain ⟨c14,hc14,ho⟩:=bnd ho
   refine wcx c14 [] (fun t=>(.normal,fun _=>([(10,vB (t))],[(v7,.row (rInt .i64) (y6.1)),(v5,.row rLeg (y4.1))]))) SEL ?_ fun _=>?_
   ·have ho:=hc14
    refine run 4 ?_
    refine wbr ho (fun hb15 ho=>?_) fun hb15 ho=>?_
    ·refine run 4 ?_
     refine wbr ho (fun hb16 ho=>?_) fun hb16 ho=>?_
     ·refine run 8 ?_
      refine wbr ho (fun hb17 ho=>?_) fun hb17 ho=>?_
      ·refine xcl ho ?_
       intro y18 hy18 ho
       show SOps ..
       refine run 2 ?_
       cases ho; exact s_nil (lf [] [0,1])
      ·refine run 3 ?_
       cases ho; exact s_nil (lf [] [0,1])
     ·refine run 11 ?_
      cases ho; exact s_nil (lf [] [0,1])
    ·refine run 15 ?_
     cases ho; exact s_nil (lf [] [0,1])
   ·show SRun ..
    cases ho; exact r_ret (zm (.inr rfl) (.v rfl .n) (by decide))
  ·refine run 9 ?_
   refine xcl ho ?_
   intro y19 hy19 ho
   show SOps ..
   refine run 1 ?_
   refine wct ho (fun hq20 ho=>?_) fun hq20 ho=>?_
   ·exact w ho
   ·refine run 8 ?_
    refine xcl ho ?_
    intro y22 hy22 ho v23
    show SOps ..
    refine run 12 ?_
    refine wct ho (fun hq24 ho=>?_) fun hq24 ho=>?_
    ·refine run 1 ?_
     obtain ⟨c29,hc29,ho⟩:=bnd ho
     refine wcx c29 [] (fun t=>(.normal,fun _=>([(10,vB (t))],[(v23,.row rLeg (y22.1)),(v7,.row (rInt .i64) (y6.1)),(v5,.row rLeg (y4.1))]))) SEL ?_ fun _=>?_
     ·have ho:=hc29
      refine run 4 ?_
      refine wbr ho (fun hb30 ho=>?_) fun hb30 ho=>?_
      ·refine run 4 ?_
       refine wbr ho (fun hb31 ho=>?_) fun hb31 ho=>?_
       ·refine run 8 ?_
        refine wbr ho (fun hb32 ho=>?_) fun hb32 ho=>?_
        ·refine xcl ho ?_
         intro y33 hy33 ho
         show SOps ..
         refine run 2 ?_
         cases ho; exact s_nil (lf [] [0,1,2])
        ·refine run 3 ?_
         cases ho; exact s_nil (lf [] [0,1,2])
       ·refine run 11 ?_
        cases ho; exact s_nil (lf [] [0,1,2])
      ·refine run 15 ?_
       cases ho; exact s_nil (lf [] [0,1,2])
     ·show SRun ..
      cases ho; exact r_ret (zm (.inr rfl) (.v rfl .n) (by decide))
    ·refine run 3 ?_
     obtain ⟨c37,hc37,ho⟩:=bnd ho
     refine wcx c37 [11,13,15] (fun t=>(.normal,fun _=>([(121,vB (t))],[(v23,.row rLeg (y22.1)),(v7,.row (rInt .i64) (y6.1)),(v5,.row rLeg (y4.1))]))) SEL ?_ fun _=>?_
     ·have ho:=hc37
      refine run 4 ?_
      refine wbr ho (fun hb38 ho=>?_) fun hb38 ho=>?_
      ·refine run 17 ?_
       cases ho; exact s_nil (lf [] [0,1,2])
      ·refine run 4 ?_
       refine wbr ho (fun hb39 ho=>?_) fun hb39 ho=>?_
       ·refine run 13 ?_
        cases ho; exact s_nil (lf [] [0,1,2])
       ·refine run 7 ?_
        refine wbr ho (fun hb40 ho=>?_) fun hb40 ho=>?_
        ·refine run 6 ?_
         cases ho; exact s_nil (lf [] [0,1,2])
        ·refine run 6 ?_
         cases ho; exact s_nil (lf [] [0,1,2])
     ·show SRun ..
      refine wct ho (fun hq41 ho=>?_) fun hq41 ho=>?_
      ·exact w ho
      ·refine run 7 ?_
       obtain ⟨t80,ht80,ho⟩:=bnd ho
       refine wlp ht80 [11,13,15] (fun s g=>([(17,vI (s))],[(v23,.row rLeg (y22.1)),(v7,.row (rInt .i64) (y6.1)),(v5,.row rLeg (y4.1))])) (altX (fun b=>(.exit 0,fun g=>([],[]))) (fun b=>(.ret,fun g=>([(10,vB (b))],[])))) [] SEL (pk [0,1,2]) NE (fun s60 g61 _ ho=>?_) fun g81=>?_
       ·refine run 8 ?_
        refine wct ho (fun hq62 ho=>?_) fun hq62 ho=>?_
        ·refine run 4 ?_
         refine za3 [3,7,13,18] (by kernel_rfl) ?_
         refine run 2 ?_
         obtain ⟨x73,hx73,ho⟩:=bnd ho
         refine run 4 ?_
         obtain ⟨x74,hx74,ho⟩:=bnd ho
         refine run 4 ?_
         refine wbr ho (fun hb75 ho=>?_) fun hb75 ho=>?_
         ·refine run 12 ?_
          refine zh1 (.t rfl) (fun _=>?_) (fun hq=>by cases hq)
          exact w ho
         ·refine run 2 ?_
          obtain ⟨x77,hx77,ho⟩:=bnd ho
          refine run 4 ?_
          obtain ⟨x78,hx78,ho⟩:=bnd ho
          refine run 2 ?_
          refine zk19 0 (fun _ h=>by cases h <;> rfl) U3 zv24 (zl8 hx78).2.2.2 (.g rfl rfl (gf0 hb75)) rfl rfl (.t rfl) rfl ?_
          refine run 3 ?_
          refine wct ho (fun hq79 ho=>?_) fun hq79 ho=>?_
          ·exact w ho
          ·refine run 5 ?_
           cases ho; exact s_nil (lf [] [0,1,2])
        ·cases ho; exact zp1 (lf [] [])
       ·rcases t80 with b82 | b83
        ·have ho:=alt_l ho
         show SRun ..
         exact w ho
        ·have ho:=alt_r ho
         cases ho; exact id (zm (.inr rfl) (.v rfl .n) (by decide))⟩
end Go.Ai.TabYtcokdbcdlaofbaaGreat
