/- Written by program: walks through functions. -/
import Derived.Test.YtppebpagcocogaaGreatQ19
set_option linter.unusedSimpArgs false
set_option linter.unusedVariables false
set_option linter.unusedSectionVars false
namespace Go.Ai.TabYtppebpagcocogaaGreat
open Go Go.Ai Go.Ai.Sx Go.Proofs
attribute [local irreducible] zo
set_option maxRecDepth 100000
set_option maxHeartbeats 4000000
instance i59 {n_0 low_1 high_2}:FI ktab 59 (zag n_0 low_1 high_2) [vI n_0,vI low_1,vI high_2] (fun out=>[.val zB (out)]):=⟨fun out ho=>by
 delta zag at ho;refine fn fun _ _=>?_;refine run 5 ?_;obtain ⟨c2,hc2,ho⟩:=bnd ho;refine wcx c2 [] (fun t=>(.normal,fun _=>([(6,vB (t))],[]))) SEL ?_ fun _=>?_
 ·exact w hc2
 ·show zap ..;cases ho; exact zaj (zF (.inr rfl) (.v rfl .n) (by decide))⟩
instance i60 {s_0}:FI ktab 60 (zba s_0) [.val zbc s_0] (fun out=>[.val zB (out)]):=⟨fun out ho=>by
 delta zba at ho;refine fn fun _ _=>?_;refine run 6 ?_;obtain ⟨c4,hc4,ho⟩:=bnd ho;refine wcx c4 [] (fun t=>(.normal,fun _=>([(2,vB (t))],[]))) SEL ?_ fun _=>?_
 ·exact w hc4
 ·show zap ..;cases ho; exact zaj (zF (.inr rfl) (.v rfl .n) (by decide))⟩
instance i61 {k_0}:FI ktab 61 (zaC k_0) [vI k_0] (fun out=>[.val (zj .i64) (out)]):=⟨fun out ho=>by
 delta zaC at ho;refine fn fun _ _=>?_;refine run 15 ?_;refine wct ho (fun hq1 ho=>?_) fun hq1 ho=>?_
 ·exact w ho
 ·refine run 5 ?_;refine wct ho (fun hq2 ho=>?_) fun hq2 ho=>?_
  ·exact w ho
  ·refine run 5 ?_;refine wct ho (fun hq3 ho=>?_) fun hq3 ho=>?_
   ·exact w ho
   ·refine run 6 ?_;refine wct ho (fun hq4 ho=>?_) fun hq4 ho=>?_
    ·refine run 1 ?_;refine wct ho (fun hq5 ho=>?_) fun hq5 ho=>?_
     ·exact w ho
     ·exact Bool.noConfusion (hq4.symm.trans hq5)
    ·refine run 5 ?_;refine wct ho (fun hq6 ho=>?_) fun hq6 ho=>?_
     ·refine run 1 ?_;refine wct ho (fun hq7 ho=>?_) fun hq7 ho=>?_
      ·exact w ho
      ·exact Bool.noConfusion (hq6.symm.trans hq7)
     ·exact w ho⟩
instance i62 {p_0 rail_1}:FI ktab 62 (zcH p_0 rail_1) [.val zaJ p_0,vI rail_1] (fun out=>[.row zbc (out)]):=⟨fun out ho=>by
 delta zcH at ho;refine fn fun _ _=>?_;refine run 3 ?_;refine zaY (zw zbc) ?_;refine zC (.n rfl) rfl rfl .nilr ?_;refine run 6 ?_;obtain ⟨x1,hx1,ho⟩:=bnd ho;refine run 2 ?_;refine xal (zv:=.agg [.int .i64 0,.int .i64 0,.nilslice,.int .i64 0,.int .i64 0]) (es:=[vI (0),vI (0),.val (zg zbc) ([]),vI (0),vI (0)]) (by kernel_rfl) fun b2=>?_;refine run 1 ?_;refine zaY (zx (R:=zbJ) (a:=x1) 0 [5] (za (zb rfl) (za (zb rfl) (za (zb rfl) (za (zb rfl) (za (zb rfl) zd rfl) rfl) rfl) rfl) rfl) rfl rfl ⟨rfl,trivial⟩) ?_;refine run 7 ?_;obtain ⟨x3,hx3,ho⟩:=bnd ho;refine run 3 ?_;refine zx0 (R:=zbc) zAh Y98 (.n rfl) rfl rfl (.c (.t rfl) .n) rfl (by decide) ?_;intro v4;refine run 7 ?_;obtain ⟨x5,hx5,ho⟩:=bnd ho;refine xap fun v6=>?_;refine run 9 ?_;obtain ⟨x7,hx7,ho⟩:=bnd ho;refine run 4 ?_;obtain ⟨x8,hx8,ho⟩:=bnd ho;refine xap fun v9=>?_;exact w ho⟩
instance i101 {n_0}:FI ktab 101 (zd8 n_0) [vI n_0] (fun out=>[.val (zj .i64) (out)]):=⟨fun out ho=>by
 delta zd8 at ho;refine fn fun _ _=>?_;refine run 11 ?_;obtain ⟨t9,ht9,ho⟩:=bnd ho;refine wlp ht9 [0] (fun s g=>([(3,vI (s.1)),(4,vI (s.2))],[])) (fun b=>(.exit 0,fun g=>([(3,vI (b))],[]))) [] SEL (pk []) NE (fun s4 g5 _ ho=>?_) fun g10=>?_
 ·exact w ho
 ·show zap ..;exact w ho⟩
instance i63 {a_0 b_1}:FI ktab 63 (zcr a_0 b_1) [.val zbc a_0,.val zbc b_1] (fun out=>[.val (zj .i64) (out)]):=⟨fun out ho=>by
 delta zcr at ho;refine fn fun _ _=>?_;exact w ho⟩
instance i64 {p_0 e_1}:FI ktab 64 (zdY p_0 e_1) [.val zaJ p_0,.val zA e_1] (fun out=>[.val (zj .i64) (out)]):=⟨fun out ho=>by
 delta zdY at ho;refine fn fun _ _=>?_;exact w ho⟩
instance i21 {p_0}:FI ktab 21 (zbW p_0) [.val zaJ p_0] (fun out=>[.val zB (out)]):=⟨fun out ho=>by
 delta zbW at ho;refine fn fun _ _=>?_;refine run 7 ?_;obtain ⟨c4,hc4,ho⟩:=bnd ho;refine wcx c4 [1] (fun t=>(.normal,fun _=>([(27,vB (t))],[]))) SEL ?_ fun _=>?_
 ·exact w hc4
 ·show zap ..;refine wct ho (fun hq8 ho=>?_) fun hq8 ho=>?_
  ·exact w ho
  ·refine run 7 ?_;obtain ⟨t161,ht161,ho⟩:=bnd ho;refine wlp ht161 [1] (fun s g=>([(3,vI (s))],[])) (zfF (fun b=>(.exit 0,fun g=>([],[]))) (fun b=>(.ret,fun g=>([(2,vB (b))],[])))) [] SEL (pk []) NE (fun s84 g85 _ ho=>?_) fun g162=>?_
   ·refine run 9 ?_;refine wct ho (fun hq86 ho=>?_) fun hq86 ho=>?_
    ·refine run 8 ?_;obtain ⟨x87,hx87,ho⟩:=bnd ho;refine run 2 ?_;refine xal (zv:=.agg [.int .i64 0,.int .i64 0,.int .i64 0,.nilslice,.int .i64 0]) (es:=[vI (0),vI (0),vI (0),.val (zg zA) ([]),vI (0)]) (by kernel_rfl) fun b88=>?_;refine run 1 ?_;refine zaY (zx (R:=zax) (a:=x87) 0 [4] (za (za (zb rfl) (za (zb rfl) zd rfl) rfl) (za (zb rfl) (za (zb rfl) (za (zb rfl) zd rfl) rfl) rfl) rfl) rfl rfl ⟨rfl,trivial⟩) ?_;refine run 15 ?_;refine wbr ho (fun hb90 ho=>?_) fun hb90 ho=>?_
     ·refine run 5 ?_;refine zaI (.t rfl) (fun _=>?_) (fun hq=>by cases hq);refine run 3 ?_;refine xcl ho ?_;intro y92 hy92 ho;show zo ..;refine run 6 ?_;refine xcl ho ?_;intro y105 hy105 ho;show zo ..;refine run 2 ?_;refine wbr ho (fun hb106 ho=>?_) fun hb106 ho=>?_
      ·refine run 19 ?_;refine zaI (.t rfl) (fun _=>?_) (fun hq=>by cases hq);exact w ho
      ·refine run 2 ?_;refine xcl ho ?_;intro y108 hy108 ho;show zo ..;refine run 3 ?_;refine wbr ho (fun hb109 ho=>?_) fun hb109 ho=>?_
       ·refine run 13 ?_;refine zaI (.t rfl) (fun _=>?_) (fun hq=>by cases hq);exact w ho
       ·refine run 5 ?_;refine xcl ho ?_;intro y111 hy111 ho;show zo ..;refine run 3 ?_;refine wbr ho (fun hb112 ho=>?_) fun hb112 ho=>?_
        ·refine run 4 ?_;refine zaI (.t rfl) (fun _=>?_) (fun hq=>by cases hq);exact w ho
        ·exact w ho
     ·refine run 5 ?_;refine wct ho (fun hq115 ho=>?_) fun hq115 ho=>?_
      ·refine run 3 ?_;refine xcl ho ?_;intro y116 hy116 ho;show zo ..;refine run 6 ?_;refine xcl ho ?_;intro y129 hy129 ho;show zo ..;refine run 2 ?_;refine wbr ho (fun hb130 ho=>?_) fun hb130 ho=>?_
       ·refine run 19 ?_;refine zaI (.t rfl) (fun _=>?_) (fun hq=>by cases hq);exact w ho
       ·refine run 2 ?_;refine xcl ho ?_;intro y132 hy132 ho;show zo ..;refine run 3 ?_;refine wbr ho (fun hb133 ho=>?_) fun hb133 ho=>?_
        ·refine run 13 ?_;refine zaI (.t rfl) (fun _=>?_) (fun hq=>by cases hq);exact w ho
        ·refine run 5 ?_;refine xcl ho ?_;intro y135 hy135 ho;show zo ..;refine run 3 ?_;refine wbr ho (fun hb136 ho=>?_) fun hb136 ho=>?_
         ·refine run 4 ?_;refine zaI (.t rfl) (fun _=>?_) (fun hq=>by cases hq);exact w ho
         ·exact w ho
      ·refine run 5 ?_;refine xcl ho ?_;intro y151 hy151 ho;show zo ..;refine run 2 ?_;refine wbr ho (fun hb152 ho=>?_) fun hb152 ho=>?_
       ·refine run 19 ?_;refine zaI (.t rfl) (fun _=>?_) (fun hq=>by cases hq);exact w ho
       ·refine run 2 ?_;refine xcl ho ?_;intro y154 hy154 ho;show zo ..;refine run 3 ?_;refine wbr ho (fun hb155 ho=>?_) fun hb155 ho=>?_
        ·refine run 13 ?_;refine zaI (.t rfl) (fun _=>?_) (fun hq=>by cases hq);exact w ho
        ·refine run 5 ?_;refine xcl ho ?_;intro y157 hy157 ho;show zo ..;refine run 3 ?_;refine wbr ho (fun hb158 ho=>?_) fun hb158 ho=>?_
         ·refine run 4 ?_;refine zaI (.t rfl) (fun _=>?_) (fun hq=>by cases hq);exact w ho
         ·exact w ho
    ·cases ho; exact zas (lf [] [])
   ·rcases t161 with b163 | b164
    ·have ho:=zck ho;show zap ..;refine run 6 ?_;obtain ⟨t299,ht299,ho⟩:=bnd ho;refine wlp ht299 [] (fun s g=>([(1,.val (zad zaJ) (p_0)),(6,vI (s))],[])) (zfF (fun b=>(.exit 2,fun g=>([(1,.val (zad zaJ) (p_0))],[]))) (fun b=>(.ret,fun g=>([(2,vB (b))],[])))) [] SEL (pk []) NE (fun s231 g232 _ ho=>?_) fun g300=>?_
     ·refine run 9 ?_;refine wct ho (fun hq233 ho=>?_) fun hq233 ho=>?_
      ·refine run 8 ?_;obtain ⟨x234,hx234,ho⟩:=bnd ho;refine run 2 ?_;refine xal (zv:=.agg [.int .i64 0,.int .i64 0,.nilslice,.int .i64 0,.int .i64 0]) (es:=[vI (0),vI (0),.val (zg zbc) ([]),vI (0),vI (0)]) (by kernel_rfl) fun b235=>?_;refine run 1 ?_;refine zaY (zx (R:=zbJ) (a:=x234) 0 [7] (za (zb rfl) (za (zb rfl) (za (zb rfl) (za (zb rfl) (za (zb rfl) zd rfl) rfl) rfl) rfl) rfl) rfl rfl ⟨rfl,trivial⟩) ?_;refine run 10 ?_;refine xcl ho ?_;intro y244 hy244 ho;show zo ..;refine run 2 ?_;refine wbr ho (fun hb245 ho=>?_) fun hb245 ho=>?_
       ·refine run 28 ?_;refine zaI (.t rfl) (fun _=>?_) (fun hq=>by cases hq);exact w ho
       ·refine run 6 ?_;refine xcl ho ?_;intro y247 hy247 ho;show zo ..;refine run 3 ?_;refine wbr ho (fun hb248 ho=>?_) fun hb248 ho=>?_
        ·refine run 18 ?_;refine zaI (.t rfl) (fun _=>?_) (fun hq=>by cases hq);exact w ho
        ·refine run 6 ?_;refine wbr ho (fun hb250 ho=>?_) fun hb250 ho=>?_
         ·refine run 12 ?_;refine zaI (.t rfl) (fun _=>?_) (fun hq=>by cases hq);exact w ho
         ·refine run 2 ?_;refine xcl ho ?_;intro y252 hy252 ho;show zo ..;refine run 3 ?_;refine wbr ho (fun hb253 ho=>?_) fun hb253 ho=>?_
          ·refine run 6 ?_;refine zaI (.t rfl) (fun _=>?_) (fun hq=>by cases hq);exact w ho
          ·refine run 2 ?_;refine xcl ho ?_;intro y255 hy255 ho;show zo ..;refine run 3 ?_;refine wct ho (fun hq256 ho=>?_) fun hq256 ho=>?_
           ·exact w ho
           ·refine run 7 ?_;obtain ⟨t267,ht267,ho⟩:=bnd ho;refine wlp ht267 [1,6,7,98,99,100,101,102,103,104,105,108,109,110,111,114,115,116,117,120,121,122,123] (fun s g=>([(8,vI (s))],[])) (zfF (fun b=>(.exit 4,fun g=>([],[]))) (fun b=>(.ret,fun g=>([(2,vB (b))],[])))) [] SEL (pk []) NE (fun s261 g262 _ ho=>?_) fun g268=>?_
            ·exact w ho
            ·rcases t267 with b269 | b270
             ·have ho:=zck ho;show zap ..;refine run 4 ?_;refine xcl ho ?_;intro y271 hy271 ho v272;show zo ..;refine run 7 ?_;obtain ⟨t295,ht295,ho⟩:=bnd ho;refine wlp ht295 [1,6,9,98,99,100,101,102,103,104,105,108,109,110,111,114,115,116,117,120,121,122,123] (fun s g=>([(10,vI (s))],[(v272,.row zbc (y271))])) (zfF (fun b=>(.exit 6,fun g=>([],[]))) (fun b=>(.ret,fun g=>([(2,vB (b))],[])))) [] SEL (pk [0]) NE (fun s283 g284 _ ho=>?_) fun g296=>?_
              ·refine run 8 ?_;refine wct ho (fun hq285 ho=>?_) fun hq285 ho=>?_
               ·refine run 4 ?_;refine za9 [4,8] (by kernel_rfl) ?_;refine run 3 ?_;obtain ⟨x290,hx290,ho⟩:=bnd ho;refine run 4 ?_;obtain ⟨x291,hx291,ho⟩:=bnd ho;refine run 2 ?_;refine xcl ho ?_;intro y292 hy292 ho;show zo ..;refine xcl ho ?_;intro y293 hy293 ho;show zo ..;refine run 2 ?_;refine wct ho (fun hq294 ho=>?_) fun hq294 ho=>?_
                ·exact w ho
                ·refine run 5 ?_;cases ho; exact zah (lf [] [0])
               ·cases ho; exact zas (lf [] [])
              ·rcases t295 with b297 | b298
               ·have ho:=zck ho;show zap ..;exact w ho
               ·have ho:=zcl ho;cases ho; exact id (lf [] [])
             ·have ho:=zcl ho;cases ho; exact id (lf [] [])
      ·cases ho; exact zas (lf [] [])
     ·rcases t299 with b301 | b302
      ·have ho:=zck ho;show zap ..;refine run 2 ?_;refine zaY (zw zA) ?_;refine zC (.n rfl) rfl rfl .nilr ?_;refine run 7 ?_;obtain ⟨t435,ht435,ho⟩:=bnd ho;refine wlp ht435 [] (fun s g=>([(1,.val (zad zaJ) (p_0)),(11,.raw ((gh g 0))),(12,vI (s.2))],[((gh g 0),.row zA (s.1))])) (zfF (fun b=>(.exit 8,fun g=>([(1,.val (zad zaJ) (p_0)),(11,.raw ((gh g 0)))],[((gh g 0),.row zA (b))]))) (fun b=>(.ret,fun g=>([(2,vB (b))],[])))) [.nilslice] SEL (pk [0]) NE (fun s368 g369 _ ho=>?_) fun g436=>?_
       ·refine run 9 ?_;refine wct ho (fun hq370 ho=>?_) fun hq370 ho=>?_
        ·refine run 8 ?_;obtain ⟨t431,ht431,ho⟩:=bnd ho;refine wlp ht431 [] (fun s g=>([(1,.val (zad zaJ) (p_0)),(11,.raw ((gh g 0))),(12,vI (s368.2)),(13,vI (s.2))],[((gh g 0),.row zA (s.1))])) (zfF (fun b=>(.exit 10,fun g=>([(1,.val (zad zaJ) (p_0)),(11,.raw ((gh g 0))),(12,vI (s368.2))],[((gh g 0),.row zA (b))]))) (fun b=>(.ret,fun g=>([(2,vB (b))],[])))) [(gh g369 0)] SEL (pk [0]) NE (fun s400 g401 _ ho=>?_) fun g432=>?_
         ·refine run 7 ?_;obtain ⟨x402,hx402,ho⟩:=bnd ho;refine run 6 ?_;refine wct ho (fun hq403 ho=>?_) fun hq403 ho=>?_
          ·refine run 8 ?_;obtain ⟨x404,hx404,ho⟩:=bnd ho;refine run 4 ?_;obtain ⟨x405,hx405,ho⟩:=bnd ho;refine run 2 ?_;refine xal (zv:=.agg [.int .i64 0,.bool false]) (es:=[vI (0),vB (false)]) (by kernel_rfl) fun b406=>?_;refine run 1 ?_;refine zaY (zx (R:=zA) (a:=x405) 0 [14] (za (zb rfl) (za (zb rfl) zd rfl) rfl) rfl rfl ⟨rfl,trivial⟩) ?_;refine run 10 ?_;refine xcl ho ?_;intro y410 hy410 ho;show zo ..;refine run 2 ?_;refine wbr ho (fun hb411 ho=>?_) fun hb411 ho=>?_
           ·refine run 7 ?_;refine zaI (.t rfl) (fun _=>?_) (fun hq=>by cases hq);exact w ho
           ·refine run 2 ?_;refine xcl ho ?_;intro y413 hy413 ho;show zo ..;refine run 4 ?_;refine wct ho (fun hq414 ho=>?_) fun hq414 ho=>?_
            ·exact w ho
            ·refine run 7 ?_;obtain ⟨t425,ht425,ho⟩:=bnd ho;refine wlp ht425 [1,11,12,13,14,196,197,198,199,200] (fun s g=>([(15,vI (s))],[((gh g401 0),.row zA (s400.1))])) (zfF (fun b=>(.exit 12,fun g=>([],[((gh g401 0),.row zA (s400.1))]))) (fun b=>(.ret,fun g=>([(2,vB (b))],[])))) [] SEL (pk [0]) NE (fun s419 g420 _ ho=>?_) fun g426=>?_
             ·refine run 8 ?_;refine wct ho (fun hq421 ho=>?_) fun hq421 ho=>?_
              ·refine run 4 ?_;refine za9 [3] (by kernel_rfl) ?_;refine run 2 ?_;obtain ⟨x423,hx423,ho⟩:=bnd ho;refine run 5 ?_;refine wct ho (fun hq424 ho=>?_) fun hq424 ho=>?_
               ·exact w ho
               ·refine run 5 ?_;cases ho; exact zah (lf [] [0])
              ·cases ho; exact zas (lf [] [0])
             ·rcases t425 with b427 | b428
              ·have ho:=zck ho;show zap ..;refine run 4 ?_;obtain ⟨x429,hx429,ho⟩:=bnd ho;refine xap fun v430=>?_;refine run 6 ?_;cases ho; exact zah (lf [v430] [0])
              ·have ho:=zcl ho;cases ho; exact id (lf [] [])
          ·cases ho; exact zas (lf [(gh g401 0)] [0])
         ·rcases t431 with b433 | b434
          ·have ho:=zck ho;show zap ..;refine run 4 ?_;cases ho; exact zah (lf [(gh g432 0)] [0])
          ·have ho:=zcl ho;cases ho; exact id (lf [] [])
        ·cases ho; exact zas (lf [(gh g369 0)] [0])
       ·rcases t435 with b437 | b438
        ·have ho:=zck ho;show zap ..;exact w ho
        ·have ho:=zcl ho;cases ho; exact id (zF (.inr rfl) (.v rfl .n) (by decide))
      ·have ho:=zcl ho;cases ho; exact id (zF (.inr rfl) (.v rfl .n) (by decide))
    ·have ho:=zcl ho;cases ho; exact id (zF (.inr rfl) (.v rfl .n) (by decide))⟩
instance i52 {p_0 rail_1}:FI ktab 52 (zaz p_0 rail_1) [.val zaJ p_0,vI rail_1] (fun out=>[.val (zj .i64) (out)]):=⟨fun out ho=>by
 delta zaz at ho;refine fn fun _ _=>?_;refine run 9 ?_;refine xcl ho ?_;intro y1 hy1 ho v2;show zo ..;refine run 12 ?_;obtain ⟨t19,ht19,ho⟩:=bnd ho;refine wlp ht19 [5] (fun s g=>([(6,vI (s.1)),(7,vI (s.2))],[(v2,.row zbc (y1))])) (fun b=>(.exit 0,fun g=>([(6,vI (b))],[]))) [] SEL (pk [0]) NE (fun s10 g11 _ ho=>?_) fun g20=>?_
 ·refine run 8 ?_;refine wct ho (fun hq12 ho=>?_) fun hq12 ho=>?_
  ·refine run 3 ?_;refine za9 [5,9] (by kernel_rfl) ?_;refine run 4 ?_;obtain ⟨x16,hx16,ho⟩:=bnd ho;refine run 4 ?_;obtain ⟨x17,hx17,ho⟩:=bnd ho;refine run 2 ?_;refine xcl ho ?_;intro y18 hy18 ho;show zo ..;refine run 7 ?_;cases ho; exact zah (lf [] [0])
  ·cases ho; exact zas (lf [] [])
 ·show zap ..;exact w ho⟩
instance i15 {p_0}:FI ktab 15 (zcW p_0) [.val zaJ p_0] (fun out=>[.val zB (out)]):=⟨fun out ho=>by
 delta zcW at ho;refine fn fun _ _=>?_;refine run 7 ?_;obtain ⟨c2,hc2,ho⟩:=bnd ho;refine wcx c2 [1] (fun t=>(.normal,fun _=>([(16,vB (t))],[]))) SEL ?_ fun _=>?_
 ·exact w hc2
 ·show zap ..;refine wct ho (fun hq4 ho=>?_) fun hq4 ho=>?_
  ·exact w ho
  ·refine run 7 ?_;obtain ⟨t13,ht13,ho⟩:=bnd ho;refine wlp ht13 [1] (fun s g=>([(3,vI (s))],[])) (zfF (fun b=>(.exit 0,fun g=>([],[]))) (fun b=>(.ret,fun g=>([(2,vB (b))],[])))) [] SEL (pk []) NE (fun s8 g9 _ ho=>?_) fun g14=>?_
   ·exact w ho
   ·rcases t13 with b15 | b16
    ·have ho:=zck ho;show zap ..;refine run 10 ?_;obtain ⟨t25,ht25,ho⟩:=bnd ho;refine wlp ht25 [1,4] (fun s g=>([(5,vI (s))],[])) (zfF (fun b=>(.exit 2,fun g=>([],[]))) (fun b=>(.ret,fun g=>([(2,vB (b))],[])))) [] SEL (pk []) NE (fun s20 g21 _ ho=>?_) fun g26=>?_
     ·exact w ho
     ·rcases t25 with b27 | b28
      ·have ho:=zck ho;show zap ..;refine run 4 ?_;refine xcl ho ?_;intro y29 hy29 ho;show zo ..;refine run 1 ?_;refine wct ho (fun hq30 ho=>?_) fun hq30 ho=>?_
       ·refine run 5 ?_;obtain ⟨t37,ht37,ho⟩:=bnd ho;refine wlp ht37 [1] (fun s g=>([(4,vI (s.1)),(6,vI (s.2))],[])) (fun b=>(.exit 4,fun g=>([(4,vI (b))],[]))) [] SEL (pk []) NE (fun s33 g34 _ ho=>?_) fun g38=>?_
        ·exact w ho
        ·show zap ..;exact w ho
       ·exact w ho
      ·have ho:=zcl ho;cases ho; exact id (zF (.inr rfl) (.v rfl .n) (by decide))
    ·have ho:=zcl ho;cases ho; exact id (zF (.inr rfl) (.v rfl .n) (by decide))⟩
instance i16 {l_0}:FI ktab 16 (zbX l_0) [.val zbO l_0] (fun out=>[.val zB (out)]):=⟨fun out ho=>by
 delta zbX at ho;refine fn fun _ _=>?_;refine run 6 ?_;obtain ⟨c10,hc10,ho⟩:=bnd ho;refine wcx c10 [] (fun t=>(.normal,fun _=>([(2,vB (t))],[]))) SEL ?_ fun _=>?_
 ·exact w hc10
 ·show zap ..;cases ho; exact zaj (zF (.inr rfl) (.v rfl .n) (by decide))⟩
instance i65 {n_0 low_1 high_2}:FI ktab 65 (zcw n_0 low_1 high_2) [vI n_0,vI low_1,vI high_2] (fun out=>[.val zB (out)]):=⟨fun out ho=>by
 delta zcw at ho;refine fn fun _ _=>?_;refine run 5 ?_;obtain ⟨c2,hc2,ho⟩:=bnd ho;refine wcx c2 [] (fun t=>(.normal,fun _=>([(6,vB (t))],[]))) SEL ?_ fun _=>?_
 ·exact w hc2
 ·show zap ..;cases ho; exact zaj (zF (.inr rfl) (.v rfl .n) (by decide))⟩
instance i67 {l_0 home_1}:FI ktab 67 (zda l_0 home_1) [.val zbO l_0,vB home_1] (fun out=>[.val zbo (out)]):=⟨fun out ho=>by
 delta zda at ho;refine fn fun _ _=>?_;refine run 3 ?_;refine xal (zv:=.agg [.nilslice,.nilslice,.nilslice]) (es:=[.val (zg zy) ([]),.val (zg (zj .i64)) ([]),.val (zg (zj .i64)) ([])]) (by kernel_rfl) fun b1=>?_;refine run 6 ?_;refine wct ho (fun hq2 ho=>?_) fun hq2 ho=>?_
 ·refine run 6 ?_;cases ho; exact zaj (zF (.inr rfl) (.b 0 U29 (za (zb rfl) (za (zb rfl) (za (zb rfl) zd rfl) rfl) rfl) rfl rfl .n) (by decide))
 ·refine run 7 ?_;cases ho; exact zaj (zF (.inr rfl) (.b 0 U29 (za (zb rfl) (za (zb rfl) (za (zb rfl) zd rfl) rfl) rfl) rfl rfl .n) (by decide))⟩
instance i132 {p_0 m_1}:FI ktab 132 (zds p_0 m_1) [.val zaJ p_0,.val zy m_1] (fun out=>[.val zB (out)]):=⟨fun out ho=>by
 delta zds at ho;refine fn fun _ _=>?_;exact w ho⟩
instance i156 {m_0}:FI ktab 156 (zdB m_0) [.val zy m_0] (fun out=>[.val zA (out)]):=⟨fun out ho=>by
 delta zdB at ho;refine fn fun _ _=>?_;refine run 3 ?_;refine xal (zv:=.agg [.int .i64 0,.bool false]) (es:=[vI (0),vB (false)]) (by kernel_rfl) fun b1=>?_;refine run 11 ?_;cases ho; exact zaj (zF (.inr rfl) (.b 0 zAg (za (zb rfl) (za (zb rfl) zd rfl) rfl) rfl rfl .n) (by decide))⟩
instance i157 {n_0 e_1}:FI ktab 157 (zcZ n_0 e_1) [.val zax n_0,.val zA e_1] (fun out=>[.val (zj .i64) (out)]):=⟨fun out ho=>by
 delta zcZ at ho;refine fn fun _ _=>?_;refine run 12 ?_;obtain ⟨t11,ht11,ho⟩:=bnd ho;refine wlp ht11 [2,3] (fun s g=>([(5,vI (s))],[])) (zfF (fun b=>(.exit 0,fun g=>([],[]))) (fun b=>(.ret,fun g=>([(4,vI (b))],[])))) [] SEL (pk []) NE (fun s5 g6 _ ho=>?_) fun g12=>?_
 ·exact w ho
 ·rcases t11 with b13 | b14
  ·have ho:=zck ho;show zap ..;exact w ho
  ·have ho:=zcl ho;cases ho; exact id (zF (.inr rfl) (.v rfl .n) (by decide))⟩
instance i158 {m_0}:FI ktab 158 (ze1 m_0) [.val zy m_0] (fun out=>[.val zA (out)]):=⟨fun out ho=>by
 delta ze1 at ho;refine fn fun _ _=>?_;refine run 3 ?_;refine xal (zv:=.agg [.int .i64 0,.bool false]) (es:=[vI (0),vB (false)]) (by kernel_rfl) fun b1=>?_;refine run 10 ?_;cases ho; exact zaj (zF (.inr rfl) (.b 0 zAg (za (zb rfl) (za (zb rfl) zd rfl) rfl) rfl rfl .n) (by decide))⟩
instance i159 {n_0 a_1 b_2}:FI ktab 159 (zec n_0 a_1 b_2) [.val zax n_0,vI a_1,vI b_2] (fun out=>[.val zB (out)]):=⟨fun out ho=>by
 delta zec at ho;refine fn fun _ _=>?_;refine run 17 ?_;refine wct ho (fun hq1 ho=>?_) fun hq1 ho=>?_
 ·exact w ho
 ·refine run 5 ?_;refine wct ho (fun hq2 ho=>?_) fun hq2 ho=>?_
  ·refine run 1 ?_;obtain ⟨c5,hc5,ho⟩:=bnd ho;refine wcx c5 [] (fun t=>(.normal,fun _=>([(6,vB (t))],[]))) SEL ?_ fun _=>?_
   ·exact w hc5
   ·show zap ..;cases ho; exact zaj (zF (.inr rfl) (.v rfl .n) (by decide))
  ·refine run 5 ?_;refine wct ho (fun hq8 ho=>?_) fun hq8 ho=>?_
   ·refine run 1 ?_;obtain ⟨c13,hc13,ho⟩:=bnd ho;refine wcx c13 [] (fun t=>(.normal,fun _=>([(6,vB (t))],[]))) SEL ?_ fun _=>?_
    ·exact w hc13
    ·show zap ..;cases ho; exact zaj (zF (.inr rfl) (.v rfl .n) (by decide))
   ·refine run 5 ?_;refine wct ho (fun hq18 ho=>?_) fun hq18 ho=>?_
    ·refine run 1 ?_;obtain ⟨c23,hc23,ho⟩:=bnd ho;refine wcx c23 [] (fun t=>(.normal,fun _=>([(6,vB (t))],[]))) SEL ?_ fun _=>?_
     ·exact w hc23
     ·show zap ..;cases ho; exact zaj (zF (.inr rfl) (.v rfl .n) (by decide))
    ·refine run 5 ?_;refine wct ho (fun hq28 ho=>?_) fun hq28 ho=>?_
     ·refine run 1 ?_;obtain ⟨c33,hc33,ho⟩:=bnd ho;refine wcx c33 [] (fun t=>(.normal,fun _=>([(6,vB (t))],[]))) SEL ?_ fun _=>?_
      ·exact w hc33
      ·show zap ..;cases ho; exact zaj (zF (.inr rfl) (.v rfl .n) (by decide))
     ·exact w ho⟩
instance i133 {p_0 m_1 n_2}:FI ktab 133 (zcf p_0 m_1 n_2) [.val zaJ p_0,.val zy m_1,.val zy n_2] (fun out=>[.val zB (out)]):=⟨fun out ho=>by
 delta zcf at ho;refine fn fun _ _=>?_;refine run 11 ?_;refine xcl ho ?_;intro y3 hy3 ho;show zo ..;refine xcl ho ?_;intro y4 hy4 ho;show zo ..;refine run 7 ?_;obtain ⟨x5,hx5,ho⟩:=bnd ho;refine run 2 ?_;refine xal (zv:=.agg [.int .i64 0,.int .i64 0,.int .i64 0,.nilslice,.int .i64 0]) (es:=[vI (0),vI (0),vI (0),.val (zg zA) ([]),vI (0)]) (by kernel_rfl) fun b6=>?_;refine run 1 ?_;refine zaY (zx (R:=zax) (a:=x5) 0 [8] (za (za (zb rfl) (za (zb rfl) zd rfl) rfl) (za (zb rfl) (za (zb rfl) (za (zb rfl) zd rfl) rfl) rfl) rfl) rfl rfl ⟨rfl,trivial⟩) ?_;refine run 5 ?_;refine xcl ho ?_;intro y11 hy11 ho;show zo ..;refine xcl ho ?_;intro y12 hy12 ho;show zo ..;refine run 2 ?_;refine xcl ho ?_;intro y13 hy13 ho;show zo ..;refine xcl ho ?_;intro y14 hy14 ho;show zo ..;refine run 4 ?_;obtain ⟨c18,hc18,ho⟩:=bnd ho;refine wcx c18 [] (fun t=>(.normal,fun _=>([(6,vB (t))],[]))) SEL ?_ fun _=>?_
 ·exact w hc18
 ·show zap ..;cases ho; exact zaj (zF (.inr rfl) (.v rfl .n) (by decide))⟩
instance i102 {p_0 l_1}:FI ktab 102 (zd0 p_0 l_1) [.val zaJ p_0,.val (zg zy) l_1] (fun out=>[.val zB (out)]):=⟨fun out ho=>by
 delta zd0 at ho;refine fn fun _ _=>?_;refine run 11 ?_;obtain ⟨t53,ht53,ho⟩:=bnd ho;refine wlp ht53 [1,2] (fun s g=>([(5,vI (s))],[])) (zfF (fun b=>(.exit 0,fun g=>([],[]))) (fun b=>(.ret,fun g=>([(4,vB (b))],[])))) [] SEL (pk []) NE (fun s26 g27 _ ho=>?_) fun g54=>?_
 ·refine run 8 ?_;refine wct ho (fun hq28 ho=>?_) fun hq28 ho=>?_
  ·refine run 8 ?_;obtain ⟨x43,hx43,ho⟩:=bnd ho;refine run 2 ?_;refine xcl ho ?_;intro y44 hy44 ho;show zo ..;refine run 2 ?_;refine wbr ho (fun hb45 ho=>?_) fun hb45 ho=>?_
   ·refine run 18 ?_;refine zaI (.t rfl) (fun _=>?_) (fun hq=>by cases hq);exact w ho
   ·refine run 3 ?_;refine wbr ho (fun hb47 ho=>?_) fun hb47 ho=>?_
    ·exact w ho
    ·refine run 15 ?_;refine zaI (.t rfl) (fun hq=>by cases hq) (fun _=>?_);exact w ho
  ·cases ho; exact zas (lf [] [])
 ·rcases t53 with b55 | b56
  ·have ho:=zck ho;show zap ..;exact w ho
  ·have ho:=zcl ho;cases ho; exact id (zF (.inr rfl) (.v rfl .n) (by decide))⟩
instance i103 {p_0 l_1}:FI ktab 103 (zbM p_0 l_1) [.val zaJ p_0,.val (zg zy) l_1] (fun out=>[.val (zj .i64) (out)]):=⟨fun out ho=>by
 delta zbM at ho;refine fn fun _ _=>?_;refine run 15 ?_;obtain ⟨t13,ht13,ho⟩:=bnd ho;refine wlp ht13 [1,2] (fun s g=>([(5,vI (s.1)),(6,vI (s.2))],[])) (fun b=>(.exit 0,fun g=>([(5,vI (b))],[]))) [] SEL (pk []) NE (fun s6 g7 _ ho=>?_) fun g14=>?_
 ·exact w ho
 ·show zap ..;exact w ho⟩
instance i161 {x_0 low_1 high_2}:FI ktab 161 (za7 x_0 low_1 high_2) [vI x_0,vI low_1,vI high_2] (fun out=>[.val zB (out)]):=⟨fun out ho=>by
 delta za7 at ho;refine fn fun _ _=>?_;refine run 5 ?_;obtain ⟨c2,hc2,ho⟩:=bnd ho;refine wcx c2 [] (fun t=>(.normal,fun _=>([(6,vB (t))],[]))) SEL ?_ fun _=>?_
 ·exact w hc2
 ·show zap ..;cases ho; exact zaj (zF (.inr rfl) (.v rfl .n) (by decide))⟩
instance i160 {t_0}:FI ktab 160 (zdC t_0) [.val zaB t_0] (fun out=>[.val zB (out)]):=⟨fun out ho=>by
 delta zdC at ho;refine fn fun _ _=>?_;refine run 7 ?_;obtain ⟨c20,hc20,ho⟩:=bnd ho;refine wcx c20 [1] (fun t=>(.normal,fun _=>([(62,vB (t))],[]))) SEL ?_ fun _=>?_
 ·exact w hc20
 ·show zap ..;refine wct ho (fun hq40 ho=>?_) fun hq40 ho=>?_
  ·exact w ho
  ·refine run 7 ?_;obtain ⟨t51,ht51,ho⟩:=bnd ho;refine wlp ht51 [1] (fun s g=>([(3,vI (s))],[])) (zfF (fun b=>(.exit 0,fun g=>([],[]))) (fun b=>(.ret,fun g=>([(2,vB (b))],[])))) [] SEL (pk []) NE (fun s45 g46 _ ho=>?_) fun g52=>?_
   ·exact w ho
   ·rcases t51 with b53 | b54
    ·have ho:=zck ho;show zap ..;exact w ho
    ·have ho:=zcl ho;cases ho; exact id (zF (.inr rfl) (.v rfl .n) (by decide))⟩
instance i134 {p_0 way_1 t_2 state_3 stops_4}:FI ktab 134 (zdD p_0 way_1 t_2 state_3 stops_4) [.val zaJ p_0,.val (zg zy) way_1,.val zaB t_2,vI state_3,.val (zg (zj .i64)) stops_4] (fun out=>[.val zB (out)]):=⟨fun out ho=>by
 delta zdD at ho;refine fn fun _ _=>?_;refine run 8 ?_;obtain ⟨c23,hc23,ho⟩:=bnd ho;refine wcx c23 [1,4,5] (fun t=>(.normal,fun _=>([(48,vB (t))],[]))) SEL ?_ fun _=>?_
 ·exact w hc23
 ·show zap ..;refine wct ho (fun hq35 ho=>?_) fun hq35 ho=>?_
  ·exact w ho
  ·refine run 7 ?_;obtain ⟨t50,ht50,ho⟩:=bnd ho;refine wlp ht50 [1,4,5] (fun s g=>([(11,vI (s))],[])) (zfF (fun b=>(.exit 0,fun g=>([],[]))) (fun b=>(.ret,fun g=>([(10,vB (b))],[])))) [] SEL (pk []) NE (fun s42 g43 _ ho=>?_) fun g51=>?_
   ·exact w ho
   ·rcases t50 with b52 | b53
    ·have ho:=zck ho;show zap ..;exact w ho
    ·have ho:=zcl ho;cases ho; exact id (zF (.inr rfl) (.v rfl .n) (by decide))⟩
instance i162 {t_0 x_1}:FI ktab 162 (zP t_0 x_1) [.val zaB t_0,.val zh x_1] (fun out=>[.val (zj .i64) (out)]):=⟨fun out ho=>by
 delta zP at ho;refine fn fun _ _=>?_;exact w ho⟩
instance i164 {r_0 place_1}:FI ktab 164 (zaX r_0 place_1) [.val zK r_0,vI place_1] (fun out=>[.val (zj .i64) (out)]):=⟨fun out ho=>by
 delta zaX at ho;refine fn fun _ _=>?_;refine run 15 ?_;obtain ⟨t61,ht61,ho⟩:=bnd ho;refine wlp ht61 [1,2] (fun s g=>([(5,vI (s.1)),(6,vI (s.2))],[])) (zfF (fun b=>(.exit 0,fun g=>([],[]))) (fun b=>(.ret,fun g=>([(4,vI (b))],[])))) [] SEL (pk []) NE (fun s30 g31 _ ho=>?_) fun g62=>?_
 ·refine run 9 ?_;refine wct ho (fun hq32 ho=>?_) fun hq32 ho=>?_
  ·refine run 11 ?_;obtain ⟨x35,hx35,ho⟩:=bnd ho;refine run 3 ?_;refine xcl ho ?_;intro y36 hy36 ho;show zo ..;refine run 9 ?_;refine wbr ho (fun hb38 ho=>?_) fun hb38 ho=>?_
   ·refine run 8 ?_;refine zaI (.t rfl) (fun _=>?_) (fun hq=>by cases hq);exact w ho
   ·exact w ho
  ·cases ho; exact zas (lf [] [])
 ·rcases t61 with b63 | b64
  ·have ho:=zck ho;show zap ..;exact w ho
  ·have ho:=zcl ho;cases ho; exact id (zF (.inr rfl) (.v rfl .n) (by decide))⟩
instance i179 {t_0 speed_1 demand_2 slope_3 state_4}:FI ktab 179 (zcx t_0 speed_1 demand_2 slope_3 state_4) [.val zaB t_0,vI speed_1,vI demand_2,vI slope_3,vI state_4] (fun out=>[.val (zj .i64) (out.1),.val (zj .i64) (out.2.1),.val (zj .i64) (out.2.2.1),.val (zj .i64) (out.2.2.2)]):=⟨fun out ho=>by
 delta zcx at ho;refine fn fun _ _=>?_;exact w ho⟩
instance i166 {t_0 x_1 demand_2 slope_3 state_4}:FI ktab 166 (zaE t_0 x_1 demand_2 slope_3 state_4) [.val zaB t_0,.val zh x_1,vI demand_2,vI slope_3,vI state_4] (fun out=>[.val zh (out.1),.val zp (out.2.1),.val zB (out.2.2)]):=⟨fun out ho=>by
 delta zaE at ho;refine fn fun _ _=>?_;refine run 4 ?_;refine xal (zv:=.agg [.int .i64 0,.int .i64 0]) (es:=[vI (0),vI (0)]) (by kernel_rfl) fun b1=>?_;refine xal (zv:=.agg [.int .i64 0,.int .i64 0,.int .i64 0,.int .i64 0,.int .i64 0,.int .i64 0]) (es:=[vI (0),vI (0),vI (0),vI (0),vI (0),vI (0)]) (by kernel_rfl) fun b2=>?_;refine run 9 ?_;obtain ⟨x5,hx5,ho⟩:=bnd ho;refine run 4 ?_;refine xcl ho ?_;intro y6 hy6 ho;show zo ..;refine run 32 ?_;refine xal (zv:=.agg [.int .i64 0,.int .i64 0,.int .i64 0,.int .i64 0,.int .i64 0,.int .i64 0]) (es:=[vI (0),vI (0),vI (0),vI (0),vI (0),vI (0)]) (by kernel_rfl) fun b7=>?_;refine run 3 ?_;obtain ⟨c10,hc10,ho⟩:=bnd ho;refine wcx c10 [5,6,10,11,13,14,15,16,17,18,19] (fun t=>(.normal,fun _=>([(57,vB (t))],[(.ptr b7 0,.box [vI (0),vI (0),vI (0),vI (0),vI (0),vI (0)]),(.ptr b2 0,.box [vI (0),vI (0),vI (0),vI (0),vI (0),vI (0)]),(.ptr b1 0,.box [vI (0),vI (0)])]))) SEL ?_ fun _=>?_
 ·have ho:=hc10;refine run 4 ?_;refine wbr ho (fun hb11 ho=>?_) fun hb11 ho=>?_
  ·refine run 8 ?_;cases ho; exact zah (lf [] [0,1,2])
  ·refine run 4 ?_;refine wbr ho (fun hb12 ho=>?_) fun hb12 ho=>?_
   ·refine run 4 ?_;cases ho; exact zah (lf [] [0,1,2])
   ·refine run 4 ?_;cases ho; exact zah (lf [] [0,1,2])
 ·show zap ..;refine wct ho (fun hq13 ho=>?_) fun hq13 ho=>?_
  ·refine run 14 ?_;refine za9 [6,1000010,1000011,1000019] (by kernel_rfl) ?_ (hdi:=rdists rfl (rowns rfl) (.c (.o (j:=2) rfl rfl) (.c (.o (j:=1) rfl rfl) (.c (.o (j:=0) rfl rfl) .n))) rfl);refine run 6 ?_;refine z5 (R:=zp) (a:=(0,0,0,0,0,(w64 (x_1.1*x_1.1)),())) 0 (fun _ h=>by cases h<;>rfl) znD (za (zb rfl) (za (zb rfl) (za (zb rfl) (za (zb rfl) (za (zb rfl) (za (zb rfl) zd rfl) rfl) rfl) rfl) rfl) rfl) (.n rfl) rfl rfl (.t rfl) rfl ?_;refine run 9 ?_;cases ho; exact zaj (zF (.inr rfl) (.b 2 zgp (za (zb rfl) (za (zb rfl) zd rfl) rfl) rfl rfl (.b 1 znD (za (zb rfl) (za (zb rfl) (za (zb rfl) (za (zb rfl) (za (zb rfl) (za (zb rfl) zd rfl) rfl) rfl) rfl) rfl) rfl) rfl rfl (.v rfl .n))) (by decide))
  ·refine run 25 ?_;refine za9 [6,1000010,1000011,1000019] (by kernel_rfl) ?_ (hdi:=rdists rfl (rowns rfl) (.c (.o (j:=2) rfl rfl) (.c (.o (j:=1) rfl rfl) (.c (.o (j:=0) rfl rfl) .n))) rfl);refine run 6 ?_;refine z5 (R:=zp) (a:=(((w64 ((w64 (200*y6.1))*(w64 (x_1.1+(w64 (100*(w64 ((w64 ((w64 (y6.1-y6.2.1))-y6.2.2.1))-y6.2.2.2)))))))),(w64 ((w64 (200*y6.2.1))*(w64 (x_1.1+(w64 (100*(w64 ((w64 ((w64 (y6.1-y6.2.1))-y6.2.2.1))-y6.2.2.2)))))))),(w64 ((w64 (200*y6.2.2.1))*(w64 (x_1.1+(w64 (100*(w64 ((w64 ((w64 (y6.1-y6.2.1))-y6.2.2.1))-y6.2.2.2)))))))),(w64 ((w64 (200*y6.2.2.2))*(w64 (x_1.1+(w64 (100*(w64 ((w64 ((w64 (y6.1-y6.2.1))-y6.2.2.1))-y6.2.2.2)))))))),(w64 ((w64 (10000*(w64 ((w64 ((w64 (y6.1-y6.2.1))-y6.2.2.1))-y6.2.2.2))))*(w64 ((w64 ((w64 (y6.1-y6.2.1))-y6.2.2.1))-y6.2.2.2)))),0,()):zam)) 0 (fun _ h=>by cases h<;>rfl) znD (za (zb rfl) (za (zb rfl) (za (zb rfl) (za (zb rfl) (za (zb rfl) (za (zb rfl) zd rfl) rfl) rfl) rfl) rfl) rfl) (.n rfl) rfl rfl (.t rfl) rfl ?_;refine run 9 ?_;cases ho; exact zaj (zF (.inr rfl) (.b 2 zgp (za (zb rfl) (za (zb rfl) zd rfl) rfl) rfl rfl (.b 1 znD (za (zb rfl) (za (zb rfl) (za (zb rfl) (za (zb rfl) (za (zb rfl) (za (zb rfl) zd rfl) rfl) rfl) rfl) rfl) rfl) rfl rfl (.v rfl .n))) (by decide))⟩
instance i207 {p_0 l_1 front_2 length_3}:FI ktab 207 (zdb p_0 l_1 front_2 length_3) [.val zaJ p_0,.val (zg zy) l_1,vI front_2,vI length_3] (fun out=>[.row zfh (out)]):=⟨fun out ho=>by
 delta zdb at ho;refine fn fun _ _=>?_;refine run 3 ?_;refine zaY (zw zfh) ?_;refine zC (.n rfl) rfl rfl .nilr ?_;refine run 3 ?_;refine zaY (zw zfh) ?_;refine zC (.n rfl) rfl rfl .nilr ?_;refine run 11 ?_;obtain ⟨t31,ht31,ho⟩:=bnd ho;refine wlp ht31 [1,2,3,4] (fun s g=>([(9,.raw ((gh g 0))),(10,vI (s.2.1)),(11,vI (s.2.2))],[((gh g 0),.row zfh (s.1))])) (fun b=>(.exit 0,fun g=>([(9,.raw ((gh g 0)))],[((gh g 0),.row zfh (b))]))) [.nilslice] SEL (pk [0]) NE (fun s15 g16 _ ho=>?_) fun g32=>?_
 ·refine run 8 ?_;refine wct ho (fun hq17 ho=>?_) fun hq17 ho=>?_
  ·refine run 8 ?_;obtain ⟨x20,hx20,ho⟩:=bnd ho;refine run 3 ?_;refine xcl ho ?_;intro y21 hy21 ho;show zo ..;refine run 35 ?_;refine wct ho (fun hq22 ho=>?_) fun hq22 ho=>?_
   ·refine run 5 ?_;cases ho; exact zah (lf [(gh g16 0)] [0])
   ·refine run 6 ?_;obtain ⟨x23,hx23,ho⟩:=bnd ho;refine run 4 ?_;refine wct ho (fun hq24 ho=>?_) fun hq24 ho=>?_
    ·refine run 14 ?_;obtain ⟨x25,hx25,ho⟩:=bnd ho;refine run 7 ?_;obtain ⟨x26,hx26,ho⟩:=bnd ho;refine xap fun v27=>?_;refine run 6 ?_;cases ho; exact zah (lf [v27] [0])
    ·refine run 5 ?_;obtain ⟨x28,hx28,ho⟩:=bnd ho;refine run 7 ?_;obtain ⟨x29,hx29,ho⟩:=bnd ho;refine xap fun v30=>?_;refine run 6 ?_;cases ho; exact zah (lf [v30] [0])
  ·cases ho; exact zas (lf [(gh g16 0)] [0])
 ·show zap ..;exact w ho⟩
instance i190 {p_0 way_1 t_2 place_3}:FI ktab 190 (zc0 p_0 way_1 t_2 place_3) [.val zaJ p_0,.val (zg zy) way_1,.val zaB t_2,vI place_3] (fun out=>[.val (zj .i64) (out)]):=⟨fun out ho=>by
 delta zc0 at ho;refine fn fun _ _=>?_;refine run 13 ?_;refine xcl ho ?_;intro y1 hy1 ho v2;show zo ..;refine run 14 ?_;obtain ⟨t15,ht15,ho⟩:=bnd ho;refine wlp ht15 [4,9] (fun s g=>([(10,vI (s.1)),(11,vI (s.2))],[(v2,.row zfh (y1))])) (fun b=>(.exit 0,fun g=>([(10,vI (b))],[]))) [] SEL (pk [0]) NE (fun s8 g9 _ ho=>?_) fun g16=>?_
 ·refine run 8 ?_;refine wct ho (fun hq10 ho=>?_) fun hq10 ho=>?_
  ·refine run 3 ?_;refine za9 [7] (by kernel_rfl) ?_;refine run 5 ?_;obtain ⟨x13,hx13,ho⟩:=bnd ho;refine run 2 ?_;refine znp 0 (fun _ h=>by cases h<;>rfl) U3 zky (zeE hx13).2.2.2 (.n rfl) rfl rfl (.t rfl) rfl ?_;obtain ⟨x14,hx14,ho⟩:=bnd ho;refine run 10 ?_;cases ho; exact zah (lf [] [0])
  ·cases ho; exact zas (lf [] [])
 ·show zap ..;exact w ho⟩
instance i178 {r_0 x_1}:FI ktab 178 (zdt r_0 x_1) [.val zK r_0,.val zh x_1] (fun out=>[.val zB (out)]):=⟨fun out ho=>by
 delta zdt at ho;refine fn fun _ _=>?_;refine run 3 ?_;refine xbo fun b1=>?_;refine run 7 ?_;obtain ⟨t82,ht82,ho⟩:=bnd ho;refine wlp ht82 [2,3] (fun s g=>([(5,vI (s.1))],[(.ptr b1 0,.box [vI (s.2.1),vI (s.2.2)])])) (fun b=>(.ret,fun g=>([(4,vB (b.1))],[]))) [] SEL (pk [0]) NE (fun s54 g55 _ ho=>?_) fun g83=>?_
 ·refine run 4 ?_;refine za9 [2,9,22] (by kernel_rfl) ?_;refine run 2 ?_;refine z5 (R:=zh) (a:=(s54.2.1,s54.2.2,())) 0 (fun _ h=>by cases h<;>rfl) zgp (za (zb rfl) (za (zb rfl) zd rfl) rfl) (.n rfl) rfl rfl (.t rfl) rfl ?_;refine xcl ho ?_;intro y66 hy66 ho;show zo ..;refine run 4 ?_;refine wbr ho (fun hb67 ho=>?_) fun hb67 ho=>?_
  ·refine run 20 ?_;refine zaI (.t rfl) (fun _=>?_) (fun hq=>by cases hq);exact w ho
  ·refine run 5 ?_;obtain ⟨x69,hx69,ho⟩:=bnd ho;refine run 9 ?_;refine z5 (R:=zh) (a:=(s54.2.1,s54.2.2,())) 0 (fun _ h=>by cases h<;>rfl) zgp (za (zb rfl) (za (zb rfl) zd rfl) rfl) (.g rfl rfl (gf0 hb67)) rfl rfl (.t rfl) rfl ?_;refine xcl ho ?_;intro y70 hy70 ho;show zo ..;refine xcl ho ?_;intro y71 hy71 ho;show zo ..;refine run 3 ?_;refine wct ho (fun hq72 ho=>?_) fun hq72 ho=>?_
   ·exact w ho
   ·refine run 8 ?_;refine wct ho (fun hq73 ho=>?_) fun hq73 ho=>?_
    ·exact w ho
    ·refine run 7 ?_;refine wct ho (fun hq74 ho=>?_) fun hq74 ho=>?_
     ·exact w ho
     ·refine run 6 ?_;refine za9 [2,6] (by kernel_rfl) ?_;refine run 2 ?_;refine z5 (R:=zh) (a:=(s54.2.1,s54.2.2,())) 0 (fun _ h=>by cases h<;>rfl) zgp (za (zb rfl) (za (zb rfl) zd rfl) rfl) (.n rfl) rfl rfl (.t rfl) rfl ?_;refine run 3 ?_;refine z5 (R:=zh) (a:=(s54.2.1,s54.2.2,())) 0 (fun _ h=>by cases h<;>rfl) zgp (za (zb rfl) (za (zb rfl) zd rfl) rfl) (.n rfl) rfl rfl (.t rfl) rfl ?_;refine xcl ho ?_;intro y78 hy78 ho;show zo ..;refine xcl ho ?_;intro y79 hy79 ho;show zo ..;refine run 2 ?_;refine xcl ho ?_;intro y80 hy80 ho;show zo ..;refine run 12 ?_;refine wct ho (fun hq81 ho=>?_) fun hq81 ho=>?_
      ·exact w ho
      ·refine run 5 ?_;cases ho; exact zah (lf [] [0])
 ·cases ho; exact id (zF (.inr rfl) (.v rfl .n) (by decide))⟩
instance i163 {r_0 x_1}:FI ktab 163 (zb2 r_0 x_1) [.val zK r_0,.val zh x_1] (fun out=>[.val (zj .i64) (out.1),.val zB (out.2)]):=⟨fun out ho=>by
 delta zb2 at ho;refine fn fun _ _=>?_;refine run 13 ?_;obtain ⟨t37,ht37,ho⟩:=bnd ho;refine wlp ht37 [2,3] (fun s g=>([(6,vI (s))],[])) (zfF (fun b=>(.exit 0,fun g=>([],[]))) (fun b=>(.ret,fun g=>([(4,vI (b.1)),(5,vB (b.2))],[])))) [] SEL (pk []) NE (fun s18 g19 _ ho=>?_) fun g38=>?_
 ·refine run 6 ?_;refine wct ho (fun hq20 ho=>?_) fun hq20 ho=>?_
  ·refine run 13 ?_;refine xcl ho ?_;intro y26 hy26 ho;show zo ..;refine xcl ho ?_;intro y27 hy27 ho;show zo ..;refine run 2 ?_;refine xcl ho ?_;intro y28 hy28 ho;show zo ..;refine run 4 ?_;refine xal (zv:=.agg [.int .i64 0,.int .i64 0]) (es:=[vI (0),vI (0)]) (by kernel_rfl) fun b29=>?_;refine xal (zv:=.agg [.int .i64 0,.int .i64 0,.int .i64 0,.int .i64 0,.int .i64 0,.int .i64 0]) (es:=[vI (0),vI (0),vI (0),vI (0),vI (0),vI (0)]) (by kernel_rfl) fun b30=>?_;refine run 1 ?_;refine zaY (zx (R:=zh) (a:=y28.1) 1 [7] (za (zb rfl) (za (zb rfl) zd rfl) rfl) rfl rfl ⟨rfl,trivial⟩) ?_;refine run 1 ?_;refine zaY (zx (R:=zp) (a:=y28.2.1) 0 [8] (za (zb rfl) (za (zb rfl) (za (zb rfl) (za (zb rfl) (za (zb rfl) (za (zb rfl) zd rfl) rfl) rfl) rfl) rfl) rfl) rfl rfl ⟨rfl,trivial⟩) ?_;refine run 6 ?_;refine wbr ho (fun hb33 ho=>?_) fun hb33 ho=>?_
   ·exact w ho
   ·refine run 5 ?_;refine zaI (.t rfl) (fun hq=>by cases hq) (fun _=>?_);exact w ho
  ·cases ho; exact zas (lf [] [])
 ·rcases t37 with b39 | b40
  ·have ho:=zck ho;show zap ..;exact w ho
  ·have ho:=zcl ho;cases ho; exact id (zF (.inr rfl) (.v rfl (.v rfl .n)) (by decide))⟩
instance i165 {t_0 x_1 demand_2 slope_3 state_4}:FI ktab 165 (zbr t_0 x_1 demand_2 slope_3 state_4) [.val zaB t_0,.val zh x_1,vI demand_2,vI slope_3,vI state_4] (fun out=>[.val (zj .i64) (out.1),.val (zj .i64) (out.2)]):=⟨fun out ho=>by
 delta zbr at ho;refine fn fun _ _=>?_;refine run 14 ?_;obtain ⟨x3,hx3,ho⟩:=bnd ho;refine run 4 ?_;refine xcl ho ?_;intro y4 hy4 ho;show zo ..;refine run 17 ?_;refine xcl ho ?_;intro y5 hy5 ho;show zo ..;refine run 4 ?_;refine xal (zv:=.agg [.int .i64 0,.int .i64 0]) (es:=[vI (0),vI (0)]) (by kernel_rfl) fun b6=>?_;refine xal (zv:=.agg [.int .i64 0,.int .i64 0,.int .i64 0,.int .i64 0,.int .i64 0,.int .i64 0]) (es:=[vI (0),vI (0),vI (0),vI (0),vI (0),vI (0)]) (by kernel_rfl) fun b7=>?_;refine run 1 ?_;refine zaY (zx (R:=zh) (a:=y5.1) 1 [16] (za (zb rfl) (za (zb rfl) zd rfl) rfl) rfl rfl ⟨rfl,trivial⟩) ?_;refine run 1 ?_;refine zaY (zx (R:=zp) (a:=y5.2.1) 0 [17] (za (zb rfl) (za (zb rfl) (za (zb rfl) (za (zb rfl) (za (zb rfl) (za (zb rfl) zd rfl) rfl) rfl) rfl) rfl) rfl) rfl rfl ⟨rfl,trivial⟩) ?_;exact w ho⟩
instance i167 {a_0 b_1}:FI ktab 167 (zdk a_0 b_1) [.val zp a_0,.val zp b_1] (fun out=>[.val zp (out)]):=⟨fun out ho=>by
 delta zdk at ho;refine fn fun _ _=>?_;refine run 4 ?_;refine xal (zv:=.agg [.int .i64 0,.int .i64 0,.int .i64 0,.int .i64 0,.int .i64 0,.int .i64 0]) (es:=[vI (0),vI (0),vI (0),vI (0),vI (0),vI (0)]) (by kernel_rfl) fun b1=>?_;refine run 36 ?_;cases ho; exact zaj (zF (.inr rfl) (.b 0 znD (za (zb rfl) (za (zb rfl) (za (zb rfl) (za (zb rfl) (za (zb rfl) (za (zb rfl) zd rfl) rfl) rfl) rfl) rfl) rfl) rfl rfl .n) (by decide))⟩
end Go.Ai.TabYtppebpagcocogaaGreat
