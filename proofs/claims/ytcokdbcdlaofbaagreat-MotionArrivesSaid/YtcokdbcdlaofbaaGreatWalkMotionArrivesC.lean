/- Written by program: walks through functions. -/
import Derived.Test.YtcokdbcdlaofbaaGreatQ20
set_option linter.unusedSimpArgs false
set_option linter.unusedVariables false
set_option linter.unusedSectionVars false
namespace Go.Ai.TabYtcokdbcdlaofbaaGreat
open Go Go.Ai Go.Ai.Sx Go.Proofs
attribute [local irreducible] SOps
set_option maxRecDepth 100000
set_option maxHeartbeats 4000000
instance i13 {t_0}:FI ktab 13 (ze6 t_0) [.val rTrain t_0] (fun out=>[.val rBool (out)]):=⟨fun out ho=>by
 delta ze6 at ho
 refine fn fun _ _=>?_
 exact w ho⟩
instance i39 {x_0 low_1 high_2}:FI ktab 39 (zt2 x_0 low_1 high_2) [vI x_0,vI low_1,vI high_2] (fun out=>[.val rBool (out)]):=⟨fun out ho=>by
 delta zt2 at ho
 refine fn fun _ _=>?_
 refine run 5 ?_
 obtain ⟨c2,hc2,ho⟩:=bnd ho
 refine wcx c2 [] (fun t=>(.normal,fun _=>([(6,vB (t))],[]))) SEL ?_ fun _=>?_
 ·exact w hc2
 ·show SRun ..
  cases ho; exact r_ret (zm (.inr rfl) (.v rfl .n) (by decide))⟩
instance i33 {p_0}:FI ktab 33 (zp3 p_0) [.val rTrain p_0] (fun out=>[.val rBool (out)]):=⟨fun out ho=>by
 delta zp3 at ho
 refine fn fun _ _=>?_
 refine run 7 ?_
 obtain ⟨c20,hc20,ho⟩:=bnd ho
 refine wcx c20 [1] (fun t=>(.normal,fun _=>([(62,vB (t))],[]))) SEL ?_ fun _=>?_
 ·exact w hc20
 ·show SRun ..
  refine wct ho (fun hq40 ho=>?_) fun hq40 ho=>?_
  ·exact w ho
  ·refine run 7 ?_
   obtain ⟨t51,ht51,ho⟩:=bnd ho
   refine wlp ht51 [1] (fun s g=>([(3,vI (s))],[])) (altX (fun b=>(.exit 0,fun g=>([],[]))) (fun b=>(.ret,fun g=>([(2,vB (b))],[])))) [] SEL (pk []) NE (fun s45 g46 _ ho=>?_) fun g52=>?_
   ·exact w ho
   ·rcases t51 with b53 | b54
    ·have ho:=alt_l ho
     show SRun ..
     exact w ho
    ·have ho:=alt_r ho
     cases ho; exact id (zm (.inr rfl) (.v rfl .n) (by decide))⟩
instance i22 {p_0 p_1 p_2 p_3}:FI ktab 22 (zo4 p_0 p_1 p_2 p_3) [.val rPlan p_0,.val (rSlice rAMove) p_1,.val rTrain p_2,.val (rSlice (rInt .i64)) p_3] (fun out=>[.val rBool (out)]):=⟨fun out ho=>by
 delta zo4 at ho
 refine fn fun _ _=>?_
 refine run 8 ?_
 obtain ⟨c6,hc6,ho⟩:=bnd ho
 refine wcx c6 [3,6] (fun t=>(.normal,fun _=>([(34,vB (t))],[]))) SEL ?_ fun _=>?_
 ·exact w hc6
 ·show SRun ..
  refine wct ho (fun hq12 ho=>?_) fun hq12 ho=>?_
  ·exact w ho
  ·refine run 7 ?_
   obtain ⟨t27,ht27,ho⟩:=bnd ho
   refine wlp ht27 [3,6] (fun s g=>([(9,vI (s))],[])) (altX (fun b=>(.exit 0,fun g=>([],[]))) (fun b=>(.ret,fun g=>([(8,vB (b))],[])))) [] SEL (pk []) NE (fun s19 g20 _ ho=>?_) fun g28=>?_
   ·exact w ho
   ·rcases t27 with b29 | b30
    ·have ho:=alt_l ho
     show SRun ..
     refine run 1 ?_
     obtain ⟨c37,hc37,ho⟩:=bnd ho
     refine wcx c37 [] (fun t=>(.normal,fun _=>([(8,vB (t))],[]))) SEL ?_ fun _=>?_
     ·exact w hc37
     ·show SRun ..
      cases ho; exact r_ret (zm (.inr rfl) (.v rfl .n) (by decide))
    ·have ho:=alt_r ho
     cases ho; exact id (zm (.inr rfl) (.v rfl .n) (by decide))⟩
instance i72 {p_0 rail_1}:FI ktab 72 (zp4 p_0 rail_1) [.val rPlan p_0,vI rail_1] (fun out=>[.row rSpot (out)]):=⟨fun out ho=>by
 delta zp4 at ho
 refine fn fun _ _=>?_
 refine run 3 ?_
 refine s_st (zj1 rSpot) ?_
 refine zj2 (.n rfl) rfl rfl .nilr ?_
 refine run 6 ?_
 obtain ⟨x1,hx1,ho⟩:=bnd ho
 refine run 2 ?_
 refine xal (zv:=.agg [.int .i64 0,.int .i64 0,.nilslice,.int .i64 0,.int .i64 0]) (es:=[vI (0),vI (0),.val (rSlice rSpot) ([]),vI (0),vI (0)]) (by kernel_rfl) fun b2=>?_
 refine run 1 ?_
 refine s_st (zj (R:=rRail) (a:=x1) 0 [5] (za (zb rfl) (za (zb rfl) (za (zb rfl) (za (zb rfl) (za (zb rfl) ze rfl) rfl) rfl) rfl) rfl) rfl rfl ⟨rfl,trivial⟩) ?_
 refine run 7 ?_
 obtain ⟨x3,hx3,ho⟩:=bnd ho
 refine run 3 ?_
 refine s_bso (R:=rSpot) S55 Y123 (.n rfl) rfl rfl (.c (.t rfl) .n) rfl (by decide) ?_
 intro v4
 refine run 7 ?_
 obtain ⟨x5,hx5,ho⟩:=bnd ho
 refine xap fun v6=>?_
 refine run 9 ?_
 obtain ⟨x7,hx7,ho⟩:=bnd ho
 refine run 4 ?_
 obtain ⟨x8,hx8,ho⟩:=bnd ho
 refine xap fun v9=>?_
 exact w ho⟩
instance i93 {n_0}:FI ktab 93 (zy5 n_0) [vI n_0] (fun out=>[.val (rInt .i64) (out)]):=⟨fun out ho=>by
 delta zy5 at ho
 refine fn fun _ _=>?_
 refine run 11 ?_
 obtain ⟨t9,ht9,ho⟩:=bnd ho
 refine wlp ht9 [0] (fun s g=>([(3,vI (s.1)),(4,vI (s.2))],[])) (fun b=>(.exit 0,fun g=>([(3,vI (b))],[]))) [] SEL (pk []) NE (fun s4 g5 _ ho=>?_) fun g10=>?_
 ·exact w ho
 ·show SRun ..
  exact w ho⟩
instance i73 {a_0 b_1}:FI ktab 73 (zi4 a_0 b_1) [.val rSpot a_0,.val rSpot b_1] (fun out=>[.val (rInt .i64) (out)]):=⟨fun out ho=>by
 delta zi4 at ho
 refine fn fun _ _=>?_
 exact w ho⟩
instance i53 {p_0 rail_1}:FI ktab 53 (zf2 p_0 rail_1) [.val rPlan p_0,vI rail_1] (fun out=>[.val (rInt .i64) (out)]):=⟨fun out ho=>by
 delta zf2 at ho
 refine fn fun _ _=>?_
 refine run 9 ?_
 refine xcl ho ?_
 intro y1 hy1 ho v2
 show SOps ..
 refine run 12 ?_
 obtain ⟨t19,ht19,ho⟩:=bnd ho
 refine wlp ht19 [5] (fun s g=>([(6,vI (s.1)),(7,vI (s.2))],[(v2,.row rSpot (y1))])) (fun b=>(.exit 0,fun g=>([(6,vI (b))],[]))) [] SEL (pk [0]) NE (fun s10 g11 _ ho=>?_) fun g20=>?_
 ·refine run 8 ?_
  refine wct ho (fun hq12 ho=>?_) fun hq12 ho=>?_
  ·refine run 3 ?_
   refine za3 [5,9] (by kernel_rfl) ?_
   refine run 4 ?_
   obtain ⟨x16,hx16,ho⟩:=bnd ho
   refine run 4 ?_
   obtain ⟨x17,hx17,ho⟩:=bnd ho
   refine run 2 ?_
   refine xcl ho ?_
   intro y18 hy18 ho
   show SOps ..
   refine run 7 ?_
   cases ho; exact s_nil (lf [] [0])
  ·cases ho; exact zp1 (lf [] [])
 ·show SRun ..
  exact w ho⟩
instance i27 {p_0 l_1}:FI ktab 27 (zb3 p_0 l_1) [.val rPlan p_0,.val (rSlice rAMove) l_1] (fun out=>[.val (rInt .i64) (out)]):=⟨fun out ho=>by
 delta zb3 at ho
 refine fn fun _ _=>?_
 refine run 15 ?_
 obtain ⟨t13,ht13,ho⟩:=bnd ho
 refine wlp ht13 [1,2] (fun s g=>([(5,vI (s.1)),(6,vI (s.2))],[])) (fun b=>(.exit 0,fun g=>([(5,vI (b))],[]))) [] SEL (pk []) NE (fun s6 g7 _ ho=>?_) fun g14=>?_
 ·exact w ho
 ·show SRun ..
  exact w ho⟩
instance i69 {n_0 low_1 high_2}:FI ktab 69 (zg1 n_0 low_1 high_2) [vI n_0,vI low_1,vI high_2] (fun out=>[.val rBool (out)]):=⟨fun out ho=>by
 delta zg1 at ho
 refine fn fun _ _=>?_
 refine run 5 ?_
 obtain ⟨c2,hc2,ho⟩:=bnd ho
 refine wcx c2 [] (fun t=>(.normal,fun _=>([(6,vB (t))],[]))) SEL ?_ fun _=>?_
 ·exact w hc2
 ·show SRun ..
  cases ho; exact r_ret (zm (.inr rfl) (.v rfl .n) (by decide))⟩
instance i70 {s_0}:FI ktab 70 (zs2 s_0) [.val rSpot s_0] (fun out=>[.val rBool (out)]):=⟨fun out ho=>by
 delta zs2 at ho
 refine fn fun _ _=>?_
 refine run 6 ?_
 obtain ⟨c4,hc4,ho⟩:=bnd ho
 refine wcx c4 [] (fun t=>(.normal,fun _=>([(2,vB (t))],[]))) SEL ?_ fun _=>?_
 ·exact w hc4
 ·show SRun ..
  cases ho; exact r_ret (zm (.inr rfl) (.v rfl .n) (by decide))⟩
instance i71 {k_0}:FI ktab 71 (zs1 k_0) [vI k_0] (fun out=>[.val (rInt .i64) (out)]):=⟨fun out ho=>by
 delta zs1 at ho
 refine fn fun _ _=>?_
 exact w ho⟩
instance i74 {p_0 e_1}:FI ktab 74 (zg6 p_0 e_1) [.val rPlan p_0,.val rRailEnd e_1] (fun out=>[.val (rInt .i64) (out)]):=⟨fun out ho=>by
 delta zg6 at ho
 refine fn fun _ _=>?_
 exact w ho⟩
instance i46 {p_0}:FI ktab 46 (zl5 p_0) [.val rPlan p_0] (fun out=>[.val rBool (out)]):=⟨fun out ho=>by
 delta zl5 at ho
 refine fn fun _ _=>?_
 refine run 7 ?_
 obtain ⟨c4,hc4,ho⟩:=bnd ho
 refine wcx c4 [1] (fun t=>(.normal,fun _=>([(27,vB (t))],[]))) SEL ?_ fun _=>?_
 ·exact w hc4
 ·show SRun ..
  refine wct ho (fun hq8 ho=>?_) fun hq8 ho=>?_
  ·exact w ho
  ·refine run 7 ?_
   obtain ⟨t161,ht161,ho⟩:=bnd ho
   refine wlp ht161 [1] (fun s g=>([(3,vI (s))],[])) (altX (fun b=>(.exit 0,fun g=>([],[]))) (fun b=>(.ret,fun g=>([(2,vB (b))],[])))) [] SEL (pk []) NE (fun s84 g85 _ ho=>?_) fun g162=>?_
   ·refine run 9 ?_
    refine wct ho (fun hq86 ho=>?_) fun hq86 ho=>?_
    ·refine run 8 ?_
     obtain ⟨x87,hx87,ho⟩:=bnd ho
     refine run 2 ?_
     refine xal (zv:=.agg [.int .i64 0,.int .i64 0,.int .i64 0,.nilslice,.int .i64 0]) (es:=[vI (0),vI (0),vI (0),.val (rSlice rRailEnd) ([]),vI (0)]) (by kernel_rfl) fun b88=>?_
     refine run 1 ?_
     refine s_st (zj (R:=rANode) (a:=x87) 0 [4] (za (za (zb rfl) (za (zb rfl) ze rfl) rfl) (za (zb rfl) (za (zb rfl) (za (zb rfl) ze rfl) rfl) rfl) rfl) rfl rfl ⟨rfl,trivial⟩) ?_
     refine run 15 ?_
     refine wbr ho (fun hb90 ho=>?_) fun hb90 ho=>?_
     ·refine run 5 ?_
      refine zh1 (.t rfl) (fun _=>?_) (fun hq=>by cases hq)
      refine run 3 ?_
      refine xcl ho ?_
      intro y92 hy92 ho
      show SOps ..
      refine run 6 ?_
      refine xcl ho ?_
      intro y105 hy105 ho
      show SOps ..
      refine run 2 ?_
      refine wbr ho (fun hb106 ho=>?_) fun hb106 ho=>?_
      ·refine run 19 ?_
       refine zh1 (.t rfl) (fun _=>?_) (fun hq=>by cases hq)
       exact w ho
      ·refine run 2 ?_
       refine xcl ho ?_
       intro y108 hy108 ho
       show SOps ..
       refine run 3 ?_
       refine wbr ho (fun hb109 ho=>?_) fun hb109 ho=>?_
       ·refine run 13 ?_
        refine zh1 (.t rfl) (fun _=>?_) (fun hq=>by cases hq)
        exact w ho
       ·refine run 5 ?_
        refine xcl ho ?_
        intro y111 hy111 ho
        show SOps ..
        refine run 3 ?_
        refine wbr ho (fun hb112 ho=>?_) fun hb112 ho=>?_
        ·refine run 4 ?_
         refine zh1 (.t rfl) (fun _=>?_) (fun hq=>by cases hq)
         exact w ho
        ·exact w ho
     ·refine run 5 ?_
      refine wct ho (fun hq115 ho=>?_) fun hq115 ho=>?_
      ·refine run 3 ?_
       refine xcl ho ?_
       intro y116 hy116 ho
       show SOps ..
       refine run 6 ?_
       refine xcl ho ?_
       intro y129 hy129 ho
       show SOps ..
       refine run 2 ?_
       refine wbr ho (fun hb130 ho=>?_) fun hb130 ho=>?_
       ·refine run 19 ?_
        refine zh1 (.t rfl) (fun _=>?_) (fun hq=>by cases hq)
        exact w ho
       ·refine run 2 ?_
        refine xcl ho ?_
        intro y132 hy132 ho
        show SOps ..
        refine run 3 ?_
        refine wbr ho (fun hb133 ho=>?_) fun hb133 ho=>?_
        ·refine run 13 ?_
         refine zh1 (.t rfl) (fun _=>?_) (fun hq=>by cases hq)
         exact w ho
        ·refine run 5 ?_
         refine xcl ho ?_
         intro y135 hy135 ho
         show SOps ..
         refine run 3 ?_
         refine wbr ho (fun hb136 ho=>?_) fun hb136 ho=>?_
         ·refine run 4 ?_
          refine zh1 (.t rfl) (fun _=>?_) (fun hq=>by cases hq)
          exact w ho
         ·exact w ho
      ·refine run 5 ?_
       refine xcl ho ?_
       intro y151 hy151 ho
       show SOps ..
       refine run 2 ?_
       refine wbr ho (fun hb152 ho=>?_) fun hb152 ho=>?_
       ·refine run 19 ?_
        refine zh1 (.t rfl) (fun _=>?_) (fun hq=>by cases hq)
        exact w ho
       ·refine run 2 ?_
        refine xcl ho ?_
        intro y154 hy154 ho
        show SOps ..
        refine run 3 ?_
        refine wbr ho (fun hb155 ho=>?_) fun hb155 ho=>?_
        ·refine run 13 ?_
         refine zh1 (.t rfl) (fun _=>?_) (fun hq=>by cases hq)
         exact w ho
        ·refine run 5 ?_
         refine xcl ho ?_
         intro y157 hy157 ho
         show SOps ..
         refine run 3 ?_
         refine wbr ho (fun hb158 ho=>?_) fun hb158 ho=>?_
         ·refine run 4 ?_
          refine zh1 (.t rfl) (fun _=>?_) (fun hq=>by cases hq)
          exact w ho
         ·exact w ho
    ·cases ho; exact zp1 (lf [] [])
   ·rcases t161 with b163 | b164
    ·have ho:=alt_l ho
     show SRun ..
     refine run 6 ?_
     obtain ⟨t299,ht299,ho⟩:=bnd ho
     refine wlp ht299 [] (fun s g=>([(1,.val (rPtr rPlan) (p_0)),(6,vI (s))],[])) (altX (fun b=>(.exit 2,fun g=>([(1,.val (rPtr rPlan) (p_0))],[]))) (fun b=>(.ret,fun g=>([(2,vB (b))],[])))) [] SEL (pk []) NE (fun s231 g232 _ ho=>?_) fun g300=>?_
     ·refine run 9 ?_
      refine wct ho (fun hq233 ho=>?_) fun hq233 ho=>?_
      ·refine run 8 ?_
       obtain ⟨x234,hx234,ho⟩:=bnd ho
       refine run 2 ?_
       refine xal (zv:=.agg [.int .i64 0,.int .i64 0,.nilslice,.int .i64 0,.int .i64 0]) (es:=[vI (0),vI (0),.val (rSlice rSpot) ([]),vI (0),vI (0)]) (by kernel_rfl) fun b235=>?_
       refine run 1 ?_
       refine s_st (zj (R:=rRail) (a:=x234) 0 [7] (za (zb rfl) (za (zb rfl) (za (zb rfl) (za (zb rfl) (za (zb rfl) ze rfl) rfl) rfl) rfl) rfl) rfl rfl ⟨rfl,trivial⟩) ?_
       refine run 10 ?_
       refine xcl ho ?_
       intro y244 hy244 ho
       show SOps ..
       refine run 2 ?_
       refine wbr ho (fun hb245 ho=>?_) fun hb245 ho=>?_
       ·refine run 28 ?_
        refine zh1 (.t rfl) (fun _=>?_) (fun hq=>by cases hq)
        exact w ho
       ·refine run 6 ?_
        refine xcl ho ?_
        intro y247 hy247 ho
        show SOps ..
        refine run 3 ?_
        refine wbr ho (fun hb248 ho=>?_) fun hb248 ho=>?_
        ·refine run 18 ?_
         refine zh1 (.t rfl) (fun _=>?_) (fun hq=>by cases hq)
         exact w ho
        ·refine run 6 ?_
         refine wbr ho (fun hb250 ho=>?_) fun hb250 ho=>?_
         ·refine run 12 ?_
          refine zh1 (.t rfl) (fun _=>?_) (fun hq=>by cases hq)
          exact w ho
         ·refine run 2 ?_
          refine xcl ho ?_
          intro y252 hy252 ho
          show SOps ..
          refine run 3 ?_
          refine wbr ho (fun hb253 ho=>?_) fun hb253 ho=>?_
          ·refine run 6 ?_
           refine zh1 (.t rfl) (fun _=>?_) (fun hq=>by cases hq)
           exact w ho
          ·refine run 2 ?_
           refine xcl ho ?_
           intro y255 hy255 ho
           show SOps ..
           refine run 3 ?_
           refine wct ho (fun hq256 ho=>?_) fun hq256 ho=>?_
           ·exact w ho
           ·refine run 7 ?_
            obtain ⟨t267,ht267,ho⟩:=bnd ho
            refine wlp ht267 [1,6,7,98,99,100,101,102,103,104,105,108,109,110,111,114,115,116,117,120,121,122,123] (fun s g=>([(8,vI (s))],[])) (altX (fun b=>(.exit 4,fun g=>([],[]))) (fun b=>(.ret,fun g=>([(2,vB (b))],[])))) [] SEL (pk []) NE (fun s261 g262 _ ho=>?_) fun g268=>?_
            ·exact w ho
            ·rcases t267 with b269 | b270
             ·have ho:=alt_l ho
              show SRun ..
              refine run 4 ?_
              refine xcl ho ?_
              intro y271 hy271 ho v272
              show SOps ..
              refine run 7 ?_
              obtain ⟨t295,ht295,ho⟩:=bnd ho
              refine wlp ht295 [1,6,9,98,99,100,101,102,103,104,105,108,109,110,111,114,115,116,117,120,121,122,123] (fun s g=>([(10,vI (s))],[(v272,.row rSpot (y271))])) (altX (fun b=>(.exit 6,fun g=>([],[]))) (fun b=>(.ret,fun g=>([(2,vB (b))],[])))) [] SEL (pk [0]) NE (fun s283 g284 _ ho=>?_) fun g296=>?_
              ·refine run 8 ?_
               refine wct ho (fun hq285 ho=>?_) fun hq285 ho=>?_
               ·refine run 4 ?_
                refine za3 [4,8] (by kernel_rfl) ?_
                refine run 3 ?_
                obtain ⟨x290,hx290,ho⟩:=bnd ho
                refine run 4 ?_
                obtain ⟨x291,hx291,ho⟩:=bnd ho
                refine run 2 ?_
                refine xcl ho ?_
                intro y292 hy292 ho
                show SOps ..
                refine xcl ho ?_
                intro y293 hy293 ho
                show SOps ..
                refine run 2 ?_
                refine wct ho (fun hq294 ho=>?_) fun hq294 ho=>?_
                ·exact w ho
                ·refine run 5 ?_
                 cases ho; exact s_nil (lf [] [0])
               ·cases ho; exact zp1 (lf [] [])
              ·rcases t295 with b297 | b298
               ·have ho:=alt_l ho
                show SRun ..
                exact w ho
               ·have ho:=alt_r ho
                cases ho; exact id (lf [] [])
             ·have ho:=alt_r ho
              cases ho; exact id (lf [] [])
      ·cases ho; exact zp1 (lf [] [])
     ·rcases t299 with b301 | b302
      ·have ho:=alt_l ho
       show SRun ..
       refine run 2 ?_
       refine s_st (zj1 rRailEnd) ?_
       refine zj2 (.n rfl) rfl rfl .nilr ?_
       refine run 7 ?_
       obtain ⟨t435,ht435,ho⟩:=bnd ho
       refine wlp ht435 [] (fun s g=>([(1,.val (rPtr rPlan) (p_0)),(11,.raw ((gh g 0))),(12,vI (s.2))],[((gh g 0),.row rRailEnd (s.1))])) (altX (fun b=>(.exit 8,fun g=>([(1,.val (rPtr rPlan) (p_0)),(11,.raw ((gh g 0)))],[((gh g 0),.row rRailEnd (b))]))) (fun b=>(.ret,fun g=>([(2,vB (b))],[])))) [.nilslice] SEL (pk [0]) NE (fun s368 g369 _ ho=>?_) fun g436=>?_
       ·refine run 9 ?_
        refine wct ho (fun hq370 ho=>?_) fun hq370 ho=>?_
        ·refine run 8 ?_
         obtain ⟨t431,ht431,ho⟩:=bnd ho
         refine wlp ht431 [] (fun s g=>([(1,.val (rPtr rPlan) (p_0)),(11,.raw ((gh g 0))),(12,vI (s368.2)),(13,vI (s.2))],[((gh g 0),.row rRailEnd (s.1))])) (altX (fun b=>(.exit 10,fun g=>([(1,.val (rPtr rPlan) (p_0)),(11,.raw ((gh g 0))),(12,vI (s368.2))],[((gh g 0),.row rRailEnd (b))]))) (fun b=>(.ret,fun g=>([(2,vB (b))],[])))) [(gh g369 0)] SEL (pk [0]) NE (fun s400 g401 _ ho=>?_) fun g432=>?_
         ·refine run 7 ?_
          obtain ⟨x402,hx402,ho⟩:=bnd ho
          refine run 6 ?_
          refine wct ho (fun hq403 ho=>?_) fun hq403 ho=>?_
          ·refine run 8 ?_
           obtain ⟨x404,hx404,ho⟩:=bnd ho
           refine run 4 ?_
           obtain ⟨x405,hx405,ho⟩:=bnd ho
           refine run 2 ?_
           refine xal (zv:=.agg [.int .i64 0,.bool false]) (es:=[vI (0),vB (false)]) (by kernel_rfl) fun b406=>?_
           refine run 1 ?_
           refine s_st (zj (R:=rRailEnd) (a:=x405) 0 [14] (za (zb rfl) (za (zb rfl) ze rfl) rfl) rfl rfl ⟨rfl,trivial⟩) ?_
           refine run 10 ?_
           refine xcl ho ?_
           intro y410 hy410 ho
           show SOps ..
           refine run 2 ?_
           refine wbr ho (fun hb411 ho=>?_) fun hb411 ho=>?_
           ·refine run 7 ?_
            refine zh1 (.t rfl) (fun _=>?_) (fun hq=>by cases hq)
            exact w ho
           ·refine run 2 ?_
            refine xcl ho ?_
            intro y413 hy413 ho
            show SOps ..
            refine run 4 ?_
            refine wct ho (fun hq414 ho=>?_) fun hq414 ho=>?_
            ·exact w ho
            ·refine run 7 ?_
             obtain ⟨t425,ht425,ho⟩:=bnd ho
             refine wlp ht425 [1,11,12,13,14,196,197,198,199,200] (fun s g=>([(15,vI (s))],[((gh g401 0),.row rRailEnd (s400.1))])) (altX (fun b=>(.exit 12,fun g=>([],[((gh g401 0),.row rRailEnd (s400.1))]))) (fun b=>(.ret,fun g=>([(2,vB (b))],[])))) [] SEL (pk [0]) NE (fun s419 g420 _ ho=>?_) fun g426=>?_
             ·refine run 8 ?_
              refine wct ho (fun hq421 ho=>?_) fun hq421 ho=>?_
              ·refine run 4 ?_
               refine za3 [3] (by kernel_rfl) ?_
               refine run 2 ?_
               obtain ⟨x423,hx423,ho⟩:=bnd ho
               refine run 5 ?_
               refine wct ho (fun hq424 ho=>?_) fun hq424 ho=>?_
               ·exact w ho
               ·refine run 5 ?_
                cases ho; exact s_nil (lf [] [0])
              ·cases ho; exact zp1 (lf [] [0])
             ·rcases t425 with b427 | b428
              ·have ho:=alt_l ho
               show SRun ..
               refine run 4 ?_
               obtain ⟨x429,hx429,ho⟩:=bnd ho
               refine xap fun v430=>?_
               refine run 6 ?_
               cases ho; exact s_nil (lf [v430] [0])
              ·have ho:=alt_r ho
               cases ho; exact id (lf [] [])
          ·cases ho; exact zp1 (lf [(gh g401 0)] [0])
         ·rcases t431 with b433 | b434
          ·have ho:=alt_l ho
           show SRun ..
           refine run 4 ?_
           cases ho; exact s_nil (lf [(gh g432 0)] [0])
          ·have ho:=alt_r ho
           cases ho; exact id (lf [] [])
        ·cases ho; exact zp1 (lf [(gh g369 0)] [0])
       ·rcases t435 with b437 | b438
        ·have ho:=alt_l ho
         show SRun ..
         exact w ho
        ·have ho:=alt_r ho
         cases ho; exact id (zm (.inr rfl) (.v rfl .n) (by decide))
      ·have ho:=alt_r ho
       cases ho; exact id (zm (.inr rfl) (.v rfl .n) (by decide))
    ·have ho:=alt_r ho
     cases ho; exact id (zm (.inr rfl) (.v rfl .n) (by decide))⟩
instance i75 {p_0 m_1}:FI ktab 75 (zj5 p_0 m_1) [.val rPlan p_0,.val rAMove m_1] (fun out=>[.val rBool (out)]):=⟨fun out ho=>by
 delta zj5 at ho
 refine fn fun _ _=>?_
 exact w ho⟩
instance i94 {m_0}:FI ktab 94 (ze5 m_0) [.val rAMove m_0] (fun out=>[.val rRailEnd (out)]):=⟨fun out ho=>by
 delta ze5 at ho
 refine fn fun _ _=>?_
 refine run 3 ?_
 refine xal (zv:=.agg [.int .i64 0,.bool false]) (es:=[vI (0),vB (false)]) (by kernel_rfl) fun b1=>?_
 refine run 11 ?_
 cases ho; exact r_ret (zm (.inr rfl) (.b 0 U120 (za (zb rfl) (za (zb rfl) ze rfl) rfl) rfl rfl .n) (by decide))⟩
instance i95 {n_0 e_1}:FI ktab 95 (zq4 n_0 e_1) [.val rANode n_0,.val rRailEnd e_1] (fun out=>[.val (rInt .i64) (out)]):=⟨fun out ho=>by
 delta zq4 at ho
 refine fn fun _ _=>?_
 refine run 12 ?_
 obtain ⟨t11,ht11,ho⟩:=bnd ho
 refine wlp ht11 [2,3] (fun s g=>([(5,vI (s))],[])) (altX (fun b=>(.exit 0,fun g=>([],[]))) (fun b=>(.ret,fun g=>([(4,vI (b))],[])))) [] SEL (pk []) NE (fun s5 g6 _ ho=>?_) fun g12=>?_
 ·exact w ho
 ·rcases t11 with b13 | b14
  ·have ho:=alt_l ho
   show SRun ..
   exact w ho
  ·have ho:=alt_r ho
   cases ho; exact id (zm (.inr rfl) (.v rfl .n) (by decide))⟩
instance i96 {m_0}:FI ktab 96 (zo6 m_0) [.val rAMove m_0] (fun out=>[.val rRailEnd (out)]):=⟨fun out ho=>by
 delta zo6 at ho
 refine fn fun _ _=>?_
 refine run 3 ?_
 refine xal (zv:=.agg [.int .i64 0,.bool false]) (es:=[vI (0),vB (false)]) (by kernel_rfl) fun b1=>?_
 refine run 10 ?_
 cases ho; exact r_ret (zm (.inr rfl) (.b 0 U120 (za (zb rfl) (za (zb rfl) ze rfl) rfl) rfl rfl .n) (by decide))⟩
instance i97 {p_0 p_1 p_2}:FI ktab 97 (zz5 p_0 p_1 p_2) [.val rANode p_0,vI p_1,vI p_2] (fun out=>[.val rBool (out)]):=⟨fun out ho=>by
 delta zz5 at ho
 refine fn fun _ _=>?_
 refine run 17 ?_
 refine wct ho (fun hq1 ho=>?_) fun hq1 ho=>?_
 ·exact w ho
 ·refine run 5 ?_
  refine wct ho (fun hq2 ho=>?_) fun hq2 ho=>?_
  ·refine run 1 ?_
   obtain ⟨c5,hc5,ho⟩:=bnd ho
   refine wcx c5 [] (fun t=>(.normal,fun _=>([(6,vB (t))],[]))) SEL ?_ fun _=>?_
   ·exact w hc5
   ·show SRun ..
    cases ho; exact r_ret (zm (.inr rfl) (.v rfl .n) (by decide))
  ·refine run 5 ?_
   refine wct ho (fun hq8 ho=>?_) fun hq8 ho=>?_
   ·refine run 1 ?_
    obtain ⟨c13,hc13,ho⟩:=bnd ho
    refine wcx c13 [] (fun t=>(.normal,fun _=>([(6,vB (t))],[]))) SEL ?_ fun _=>?_
    ·exact w hc13
    ·show SRun ..
     cases ho; exact r_ret (zm (.inr rfl) (.v rfl .n) (by decide))
   ·refine run 5 ?_
    refine wct ho (fun hq18 ho=>?_) fun hq18 ho=>?_
    ·refine run 1 ?_
     obtain ⟨c23,hc23,ho⟩:=bnd ho
     refine wcx c23 [] (fun t=>(.normal,fun _=>([(6,vB (t))],[]))) SEL ?_ fun _=>?_
     ·exact w hc23
     ·show SRun ..
      cases ho; exact r_ret (zm (.inr rfl) (.v rfl .n) (by decide))
    ·refine run 5 ?_
     refine wct ho (fun hq28 ho=>?_) fun hq28 ho=>?_
     ·refine run 1 ?_
      obtain ⟨c33,hc33,ho⟩:=bnd ho
      refine wcx c33 [] (fun t=>(.normal,fun _=>([(6,vB (t))],[]))) SEL ?_ fun _=>?_
      ·exact w hc33
      ·show SRun ..
       cases ho; exact r_ret (zm (.inr rfl) (.v rfl .n) (by decide))
     ·exact w ho⟩
instance i76 {p_0 m_1 n_2}:FI ktab 76 (zu3 p_0 m_1 n_2) [.val rPlan p_0,.val rAMove m_1,.val rAMove n_2] (fun out=>[.val rBool (out)]):=⟨fun out ho=>by
 delta zu3 at ho
 refine fn fun _ _=>?_
 refine run 11 ?_
 refine xcl ho ?_
 intro y3 hy3 ho
 show SOps ..
 refine xcl ho ?_
 intro y4 hy4 ho
 show SOps ..
 refine run 7 ?_
 obtain ⟨x5,hx5,ho⟩:=bnd ho
 refine run 2 ?_
 refine xal (zv:=.agg [.int .i64 0,.int .i64 0,.int .i64 0,.nilslice,.int .i64 0]) (es:=[vI (0),vI (0),vI (0),.val (rSlice rRailEnd) ([]),vI (0)]) (by kernel_rfl) fun b6=>?_
 refine run 1 ?_
 refine s_st (zj (R:=rANode) (a:=x5) 0 [8] (za (za (zb rfl) (za (zb rfl) ze rfl) rfl) (za (zb rfl) (za (zb rfl) (za (zb rfl) ze rfl) rfl) rfl) rfl) rfl rfl ⟨rfl,trivial⟩) ?_
 refine run 5 ?_
 refine xcl ho ?_
 intro y11 hy11 ho
 show SOps ..
 refine xcl ho ?_
 intro y12 hy12 ho
 show SOps ..
 refine run 2 ?_
 refine xcl ho ?_
 intro y13 hy13 ho
 show SOps ..
 refine xcl ho ?_
 intro y14 hy14 ho
 show SOps ..
 refine run 4 ?_
 obtain ⟨c18,hc18,ho⟩:=bnd ho
 refine wcx c18 [] (fun t=>(.normal,fun _=>([(6,vB (t))],[]))) SEL ?_ fun _=>?_
 ·exact w hc18
 ·show SRun ..
  cases ho; exact r_ret (zm (.inr rfl) (.v rfl .n) (by decide))⟩
instance i47 {p_0 l_1}:FI ktab 47 (zv6 p_0 l_1) [.val rPlan p_0,.val (rSlice rAMove) l_1] (fun out=>[.val rBool (out)]):=⟨fun out ho=>by
 delta zv6 at ho
 refine fn fun _ _=>?_
 refine run 11 ?_
 obtain ⟨t53,ht53,ho⟩:=bnd ho
 refine wlp ht53 [1,2] (fun s g=>([(5,vI (s))],[])) (altX (fun b=>(.exit 0,fun g=>([],[]))) (fun b=>(.ret,fun g=>([(4,vB (b))],[])))) [] SEL (pk []) NE (fun s26 g27 _ ho=>?_) fun g54=>?_
 ·refine run 8 ?_
  refine wct ho (fun hq28 ho=>?_) fun hq28 ho=>?_
  ·refine run 8 ?_
   obtain ⟨x43,hx43,ho⟩:=bnd ho
   refine run 2 ?_
   refine xcl ho ?_
   intro y44 hy44 ho
   show SOps ..
   refine run 2 ?_
   refine wbr ho (fun hb45 ho=>?_) fun hb45 ho=>?_
   ·refine run 18 ?_
    refine zh1 (.t rfl) (fun _=>?_) (fun hq=>by cases hq)
    exact w ho
   ·refine run 3 ?_
    refine wbr ho (fun hb47 ho=>?_) fun hb47 ho=>?_
    ·exact w ho
    ·refine run 15 ?_
     refine zh1 (.t rfl) (fun hq=>by cases hq) (fun _=>?_)
     exact w ho
  ·cases ho; exact zp1 (lf [] [])
 ·rcases t53 with b55 | b56
  ·have ho:=alt_l ho
   show SRun ..
   exact w ho
  ·have ho:=alt_r ho
   cases ho; exact id (zm (.inr rfl) (.v rfl .n) (by decide))⟩
instance i23 {p_0 p_1 p_2 p_3 p_4}:FI ktab 23 (zr4 p_0 p_1 p_2 p_3 p_4) [.val rPlan p_0,.val (rSlice rAMove) p_1,.val rTrain p_2,vI p_3,.val (rSlice (rInt .i64)) p_4] (fun out=>[.val rBool (out)]):=⟨fun out ho=>by
 delta zr4 at ho
 refine fn fun _ _=>?_
 refine run 8 ?_
 obtain ⟨c23,hc23,ho⟩:=bnd ho
 refine wcx c23 [1,4,5] (fun t=>(.normal,fun _=>([(48,vB (t))],[]))) SEL ?_ fun _=>?_
 ·exact w hc23
 ·show SRun ..
  refine wct ho (fun hq35 ho=>?_) fun hq35 ho=>?_
  ·exact w ho
  ·refine run 7 ?_
   obtain ⟨t50,ht50,ho⟩:=bnd ho
   refine wlp ht50 [1,4,5] (fun s g=>([(11,vI (s))],[])) (altX (fun b=>(.exit 0,fun g=>([],[]))) (fun b=>(.ret,fun g=>([(10,vB (b))],[])))) [] SEL (pk []) NE (fun s42 g43 _ ho=>?_) fun g51=>?_
   ·exact w ho
   ·rcases t50 with b52 | b53
    ·have ho:=alt_l ho
     show SRun ..
     exact w ho
    ·have ho:=alt_r ho
     cases ho; exact id (zm (.inr rfl) (.v rfl .n) (by decide))⟩
instance i24 {p_0 p_1 p_2 p_3 p_4}:FI ktab 24 (zk5 p_0 p_1 p_2 p_3 p_4) [.val rPlan p_0,.val (rSlice rAMove) p_1,.val rTrain p_2,vI p_3,.val (rSlice (rInt .i64)) p_4] (fun out=>[.val rBool (out)]):=⟨fun out ho=>by
 delta zk5 at ho
 refine fn fun _ _=>?_
 refine run 8 ?_
 obtain ⟨c4,hc4,ho⟩:=bnd ho
 refine wcx c4 [1,5,7] (fun t=>(.normal,fun _=>([(28,vB (t))],[]))) SEL ?_ fun _=>?_
 ·exact w hc4
 ·show SRun ..
  refine wct ho (fun hq8 ho=>?_) fun hq8 ho=>?_
  ·exact w ho
  ·refine run 7 ?_
   obtain ⟨t39,ht39,ho⟩:=bnd ho
   refine wlp ht39 [1,5,7] (fun s g=>([(11,vI (s))],[])) (altX (fun b=>(.exit 0,fun g=>([],[]))) (fun b=>(.ret,fun g=>([(10,vB (b))],[])))) [] SEL (pk []) NE (fun s23 g24 _ ho=>?_) fun g40=>?_
   ·refine run 8 ?_
    refine wct ho (fun hq25 ho=>?_) fun hq25 ho=>?_
    ·refine run 9 ?_
     obtain ⟨x29,hx29,ho⟩:=bnd ho
     refine run 3 ?_
     obtain ⟨x30,hx30,ho⟩:=bnd ho
     refine run 2 ?_
     refine xal (zv:=.agg [.int .i64 0,.int .i64 0,.nilslice,.int .i64 0,.int .i64 0]) (es:=[vI (0),vI (0),.val (rSlice rSpot) ([]),vI (0),vI (0)]) (by kernel_rfl) fun b31=>?_
     refine run 1 ?_
     refine s_st (zj (R:=rRail) (a:=x30) 0 [12] (za (zb rfl) (za (zb rfl) (za (zb rfl) (za (zb rfl) (za (zb rfl) ze rfl) rfl) rfl) rfl) rfl) rfl rfl ⟨rfl,trivial⟩) ?_
     refine run 7 ?_
     refine wbr ho (fun hb34 ho=>?_) fun hb34 ho=>?_
     ·refine run 10 ?_
      refine zh1 (.t rfl) (fun _=>?_) (fun hq=>by cases hq)
      exact w ho
     ·refine run 5 ?_
      refine wbr ho (fun hb36 ho=>?_) fun hb36 ho=>?_
      ·refine run 5 ?_
       refine zh1 (.t rfl) (fun _=>?_) (fun hq=>by cases hq)
       exact w ho
      ·exact w ho
    ·cases ho; exact zp1 (lf [] [])
   ·rcases t39 with b41 | b42
    ·have ho:=alt_l ho
     show SRun ..
     refine run 1 ?_
     obtain ⟨c46,hc46,ho⟩:=bnd ho
     refine wcx c46 [] (fun t=>(.normal,fun _=>([(10,vB (t))],[]))) SEL ?_ fun _=>?_
     ·exact w hc46
     ·show SRun ..
      cases ho; exact r_ret (zm (.inr rfl) (.v rfl .n) (by decide))
    ·have ho:=alt_r ho
     cases ho; exact id (zm (.inr rfl) (.v rfl .n) (by decide))⟩
instance i8 {p_0 p_1 p_2 p_3 p_4 p_5}:FI ktab 8 (zs4 p_0 p_1 p_2 p_3 p_4 p_5) [.val rPlan p_0,.val (rSlice rAMove) p_1,.val rTrain p_2,vI p_3,.val (rSlice (rInt .i64)) p_4,vI p_5] (fun out=>[.val rBool (out)]):=⟨fun out ho=>by
 delta zs4 at ho
 refine fn fun _ _=>?_
 refine run 8 ?_
 obtain ⟨c6,hc6,ho⟩:=bnd ho
 refine wcx c6 [1,3,4,5,6,8] (fun t=>(.normal,fun _=>([(48,vB (t))],[]))) SEL ?_ fun _=>?_
 ·exact w hc6
 ·show SRun ..
  refine wct ho (fun hq12 ho=>?_) fun hq12 ho=>?_
  ·exact w ho
  ·refine run 8 ?_
   refine xcl ho ?_
   intro y14 hy14 ho v15
   show SOps ..
   refine run 12 ?_
   refine wct ho (fun hq16 ho=>?_) fun hq16 ho=>?_
   ·refine run 1 ?_
    obtain ⟨c19,hc19,ho⟩:=bnd ho
    refine wcx c19 [] (fun t=>(.normal,fun _=>([(12,vB (t))],[(v15,.row rLeg (y14.1))]))) SEL ?_ fun _=>?_
    ·have ho:=hc19
     refine run 4 ?_
     refine wbr ho (fun hb20 ho=>?_) fun hb20 ho=>?_
     ·refine xcl ho ?_
      intro y21 hy21 ho
      show SOps ..
      refine run 2 ?_
      cases ho; exact s_nil (lf [] [0])
     ·refine run 3 ?_
      cases ho; exact s_nil (lf [] [0])
    ·show SRun ..
     cases ho; exact r_ret (zm (.inr rfl) (.v rfl .n) (by decide))
   ·refine run 11 ?_
    refine wct ho (fun hq22 ho=>?_) fun hq22 ho=>?_
    ·exact w ho
    ·refine run 11 ?_
     obtain ⟨t35,ht35,ho⟩:=bnd ho
     refine wlp ht35 [1,3,4,5,6,8,13] (fun s g=>([(15,vI (s.1)),(16,vI (s.2))],[(v15,.row rLeg (y14.1))])) (fun b=>(.exit 0,fun g=>([(15,vI (b))],[(v15,.row rLeg (y14.1))]))) [] SEL (pk [0]) NE (fun s28 g29 _ ho=>?_) fun g36=>?_
     ·refine run 8 ?_
      refine wct ho (fun hq30 ho=>?_) fun hq30 ho=>?_
      ·refine run 9 ?_
       obtain ⟨x33,hx33,ho⟩:=bnd ho
       refine run 3 ?_
       obtain ⟨x34,hx34,ho⟩:=bnd ho
       refine run 10 ?_
       cases ho; exact s_nil (lf [] [0])
      ·cases ho; exact zp1 (lf [] [0])
     ·show SRun ..
      refine run 3 ?_
      obtain ⟨x37,hx37,ho⟩:=bnd ho
      refine run 10 ?_
      obtain ⟨t118,ht118,ho⟩:=bnd ho
      refine wlp ht118 [1,3,4,5,6,8,13,15] (fun s g=>([(17,vI (s.1)),(18,vI (s.2))],[(v15,.row rLeg (y14.1))])) (altX (fun b=>(.exit 2,fun g=>([(17,vI (b))],[(v15,.row rLeg (y14.1))]))) (fun b=>(.ret,fun g=>([(12,vB (b))],[])))) [] SEL (pk [0]) NE (fun s77 g78 _ ho=>?_) fun g119=>?_
      ·refine run 8 ?_
       refine wct ho (fun hq79 ho=>?_) fun hq79 ho=>?_
       ·refine run 4 ?_
        refine za3 [3,8] (by kernel_rfl) ?_
        refine run 2 ?_
        obtain ⟨x84,hx84,ho⟩:=bnd ho
        refine run 4 ?_
        obtain ⟨x85,hx85,ho⟩:=bnd ho
        refine run 2 ?_
        refine zk19 0 (fun _ h=>by cases h <;> rfl) U31 zw24 (zl8 hx85).2.2.2 (.n rfl) rfl rfl (.t rfl) rfl ?_
        refine xal (zv:=.agg [.int .i64 0,.int .i64 0,.int .i64 0,.int .i64 0,.int .i64 0,.int .i64 0,.int .i64 0,.int .i64 0,.int .i64 0,.int .i64 0]) (es:=[vI (0),vI (0),vI (0),vI (0),vI (0),vI (0),vI (0),vI (0),vI (0),vI (0)]) (by kernel_rfl) fun b86=>?_
        refine xal (zv:=.agg [.int .i64 0,.int .i64 0,.int .i64 0,.int .i64 0,.int .i64 0,.int .i64 0]) (es:=[vI (0),vI (0),vI (0),vI (0),vI (0),vI (0)]) (by kernel_rfl) fun b87=>?_
        refine run 1 ?_
        refine s_st (zj (R:=rLeg) (a:=x84) 1 [19] (za (zb rfl) (za (zb rfl) (za (za (zb rfl) (za (zb rfl) (za (zb rfl) (za (zb rfl) (za (zb rfl) (za (zb rfl) ze rfl) rfl) rfl) rfl) rfl) rfl) (za (zb rfl) (za (zb rfl) ze rfl) rfl) rfl) rfl) rfl) rfl rfl ⟨rfl,trivial⟩) ?_
        refine run 1 ?_
        refine s_st (zj (R:=rMotionLedger) (a:=x85.2.2.1) 0 [20] (za (zb rfl) (za (zb rfl) (za (zb rfl) (za (zb rfl) (za (zb rfl) (za (zb rfl) ze rfl) rfl) rfl) rfl) rfl) rfl) rfl rfl ⟨rfl,trivial⟩) ?_
        refine run 9 ?_
        obtain ⟨x102,hx102,ho⟩:=bnd ho
        refine run 4 ?_
        refine wbr ho (fun hb103 ho=>?_) fun hb103 ho=>?_
        ·refine run 28 ?_
         refine zh1 (.t rfl) (fun _=>?_) (fun hq=>by cases hq)
         exact w ho
        ·refine run 5 ?_
         obtain ⟨x105,hx105,ho⟩:=bnd ho
         refine run 6 ?_
         refine wbr ho (fun hb106 ho=>?_) fun hb106 ho=>?_
         ·refine run 17 ?_
          refine zh1 (.t rfl) (fun _=>?_) (fun hq=>by cases hq)
          exact w ho
         ·refine run 5 ?_
          refine wbr ho (fun hb108 ho=>?_) fun hb108 ho=>?_
          ·refine run 12 ?_
           refine zh1 (.t rfl) (fun _=>?_) (fun hq=>by cases hq)
           exact w ho
          ·refine run 2 ?_
           obtain ⟨x110,hx110,ho⟩:=bnd ho
           refine run 4 ?_
           refine wbr ho (fun hb111 ho=>?_) fun hb111 ho=>?_
           ·refine run 6 ?_
            refine zh1 (.t rfl) (fun _=>?_) (fun hq=>by cases hq)
            exact w ho
           ·refine run 6 ?_
            refine wct ho (fun hq113 ho=>?_) fun hq113 ho=>?_
            ·exact w ho
            ·refine run 22 ?_
             refine wbr ho (fun hb115 ho=>?_) fun hb115 ho=>?_
             ·refine run 17 ?_
              refine zh1 (.t rfl) (fun _=>?_) (fun hq=>by cases hq)
              exact w ho
             ·refine run 17 ?_
              refine wct ho (fun hq117 ho=>?_) fun hq117 ho=>?_
              ·exact w ho
              ·refine run 10 ?_
               cases ho; exact s_nil (lf [] [0])
       ·cases ho; exact zp1 (lf [] [0])
      ·rcases t118 with b120 | b121
       ·have ho:=alt_l ho
        show SRun ..
        refine run 2 ?_
        obtain ⟨c123,hc123,ho⟩:=bnd ho
        refine wcx c123 [1,3,4,5,6,8,13,17] (fun t=>(.normal,fun _=>([(187,vB (t))],[(v15,.row rLeg (y14.1))]))) SEL ?_ fun _=>?_
        ·have ho:=hc123
         refine run 4 ?_
         refine wbr ho (fun hb124 ho=>?_) fun hb124 ho=>?_
         ·refine run 5 ?_
          cases ho; exact s_nil (lf [] [0])
         ·refine run 5 ?_
          cases ho; exact s_nil (lf [] [0])
        ·show SRun ..
         refine wct ho (fun hq125 ho=>?_) fun hq125 ho=>?_
         ·exact w ho
         ·refine run 9 ?_
          obtain ⟨x130,hx130,ho⟩:=bnd ho
          refine run 1 ?_
          refine xcl ho ?_
          intro y131 hy131 ho v132
          show SOps ..
          refine run 8 ?_
          obtain ⟨c134,hc134,ho⟩:=bnd ho
          refine wcx c134 [1,6,13,17,21] (fun t=>(.normal,fun _=>([(208,vB (t))],[(v132,.row rLeg (y131.1)),(v15,.row rLeg (y14.1))]))) SEL ?_ fun _=>?_
          ·have ho:=hc134
           refine run 4 ?_
           refine wbr ho (fun hb135 ho=>?_) fun hb135 ho=>?_
           ·refine run 6 ?_
            cases ho; exact s_nil (lf [] [0,1])
           ·refine run 6 ?_
            cases ho; exact s_nil (lf [] [0,1])
          ·show SRun ..
           refine wct ho (fun hq136 ho=>?_) fun hq136 ho=>?_
           ·exact w ho
           ·refine run 7 ?_
            obtain ⟨t151,ht151,ho⟩:=bnd ho
            refine wlp ht151 [1,6,13,17,21] (fun s g=>([(23,vI (s))],[(v132,.row rLeg (y131.1)),(v15,.row rLeg (y14.1))])) (altX (fun b=>(.exit 4,fun g=>([],[]))) (fun b=>(.ret,fun g=>([(12,vB (b))],[])))) [] SEL (pk [0,1]) NE (fun s143 g144 _ ho=>?_) fun g152=>?_
            ·refine run 8 ?_
             refine wct ho (fun hq145 ho=>?_) fun hq145 ho=>?_
             ·refine run 4 ?_
              refine za3 [3,7] (by kernel_rfl) ?_
              refine run 2 ?_
              obtain ⟨x148,hx148,ho⟩:=bnd ho
              refine run 4 ?_
              obtain ⟨x149,hx149,ho⟩:=bnd ho
              refine run 4 ?_
              refine wct ho (fun hq150 ho=>?_) fun hq150 ho=>?_
              ·exact w ho
              ·refine run 5 ?_
               cases ho; exact s_nil (lf [] [0,1])
             ·cases ho; exact zp1 (lf [] [])
            ·rcases t151 with b153 | b154
             ·have ho:=alt_l ho
              show SRun ..
              refine run 4 ?_
              refine xcl ho ?_
              intro y155 hy155 ho
              show SOps ..
              refine run 7 ?_
              obtain ⟨c161,hc161,ho⟩:=bnd ho
              refine wcx c161 [] (fun t=>(.normal,fun _=>([(12,vB (t))],[]))) SEL ?_ fun _=>?_
              ·exact w hc161
              ·show SRun ..
               cases ho; exact r_ret (zm (.inr rfl) (.v rfl .n) (by decide))
             ·have ho:=alt_r ho
              cases ho; exact id (zm (.inr rfl) (.v rfl .n) (by decide))
       ·have ho:=alt_r ho
        cases ho; exact id (zm (.inr rfl) (.v rfl .n) (by decide))⟩
end Go.Ai.TabYtcokdbcdlaofbaaGreat
