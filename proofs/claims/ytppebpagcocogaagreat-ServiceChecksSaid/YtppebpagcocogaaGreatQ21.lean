/- Written by program: walks through functions. -/
import Derived.Test.YtppebpagcocogaaGreatQ20
set_option linter.unusedSimpArgs false
set_option linter.unusedVariables false
set_option linter.unusedSectionVars false
namespace Go.Ai.TabYtppebpagcocogaaGreat
open Go Go.Ai Go.Ai.Sx Go.Proofs
attribute [local irreducible] zo
set_option maxRecDepth 100000
set_option maxHeartbeats 4000000
instance i135 {p_0 way_1 t_2 state_3 stops_4}:FI ktab 135 (zdE p_0 way_1 t_2 state_3 stops_4) [.val zaJ p_0,.val (zg zy) way_1,.val zaB t_2,vI state_3,.val (zg (zj .i64)) stops_4] (fun out=>[.row zdW (out.1),.val zB (out.2)]):=⟨fun out ho=>by
 delta zdE at ho;refine fn fun _ _=>?_;refine run 4 ?_;refine zaY (zw zdW) ?_;refine zC (.n rfl) rfl rfl .nilr ?_;refine run 8 ?_;obtain ⟨x3,hx3,ho⟩:=bnd ho;refine run 4 ?_;refine xal (zv:=.agg [.int .i64 0,.int .i64 0]) (es:=[vI (0),vI (0)]) (by kernel_rfl) fun b4=>?_;refine run 4 ?_;refine zaY (zw zdW) ?_;refine zC (.n rfl) rfl rfl .nilr ?_;refine run 7 ?_;obtain ⟨t421,ht421,ho⟩:=bnd ho;refine wlp ht421 [] (fun s g=>([(1,.val (zg zy) (way_1)),(3,vI (state_3)),(4,.val (zg (zj .i64)) (stops_4)),(5,.val (zad zaJ) (p_0)),(7,.val (zad zaB) (t_2)),(12,.raw (.ptr b4 0)),(13,.raw ((gh g 0))),(14,vI (s.2.1))],[(.ptr b4 0,.box [vI (s.2.2.1),vI (s.2.2.2)]),((gh g 0),.row zdW (s.1))])) (zfF (fun b=>(.exit 0,fun g=>([(12,.raw (.ptr b4 0)),(13,.raw ((gh g 0)))],[(.ptr b4 0,.box [vI (b.2.1),vI (b.2.2)]),((gh g 0),.row zdW (b.1))]))) (fun b=>(.ret,fun g=>([(10,.raw ((gh g 0))),(11,vB (b.2))],[((gh g 0),.row zdW (b.1))])))) [.nilslice] SEL (pk [1,0]) NE (fun s281 g282 _ ho=>?_) fun g422=>?_
 ·refine run 8 ?_;refine wct ho (fun hq283 ho=>?_) fun hq283 ho=>?_
  ·refine run 11 ?_;obtain ⟨x286,hx286,ho⟩:=bnd ho;refine run 3 ?_;refine xal (zv:=.agg [.nilslice,.nilslice,.nilslice,.int .i64 0,.int .i64 0,.int .i64 0,.int .i64 0,.int .i64 0,.int .i64 0,.int .i64 0,.int .i64 0,.int .i64 0,.nilslice,.int .i64 0,.int .i64 0]) (es:=[.val (zg zax) ([]),.val (zg zbJ) ([]),.val (zg zy) ([]),vI (0),vI (0),vI (0),vI (0),vI (0),vI (0),vI (0),vI (0),vI (0),.val (zg (zj .i64)) ([]),vI (0),vI (0)]) (by kernel_rfl) fun b287=>?_;refine run 1 ?_;refine zaY (zx (R:=zK) (a:=((p_0,way_1,t_2,state_3,x286,()):zac)) 0 [15] (za (za (zb rfl) (za (zb rfl) zd rfl) rfl) (za (zb rfl) (za (za (zb rfl) (za (zb rfl) (za (zb rfl) (za (zb rfl) (za (zb rfl) (za (zb rfl) (za (zb rfl) (za (zb rfl) (za (zb rfl) (za (zb rfl) zd rfl) rfl) rfl) rfl) rfl) rfl) rfl) rfl) rfl) rfl) (za (zb rfl) (za (zb rfl) zd rfl) rfl) rfl) rfl) rfl) rfl rfl ⟨rfl,trivial⟩) ?_;refine run 3 ?_;refine xal (zv:=.agg [.int .i64 0,.int .i64 0,.int .i64 0,.int .i64 0,.int .i64 0,.int .i64 0,.int .i64 0,.int .i64 0,.int .i64 0,.int .i64 0]) (es:=[vI (0),vI (0),vI (0),vI (0),vI (0),vI (0),vI (0),vI (0),vI (0),vI (0)]) (by kernel_rfl) fun b288=>?_;refine run 7 ?_;obtain ⟨t414,ht414,ho⟩:=bnd ho;refine wlp ht414 [1,3,4,5,7,12,13,14,15,16] (fun s g=>([(17,vI (s.1))],[(.ptr b288 0,.box [vI (s.2.1),vI (0),vI (s.2.2.1),vI (s.2.2.2.1),vI (s.2.2.2.2.1),vI (s.2.2.2.2.2.1),vI (s.2.2.2.2.2.2.1),vI (s.2.2.2.2.2.2.2.1),vI (s.2.2.2.2.2.2.2.2.1),vI (s.2.2.2.2.2.2.2.2.2.1)]),(.ptr b4 0,.box [vI (s.2.2.2.2.2.2.2.2.2.2.1),vI (s.2.2.2.2.2.2.2.2.2.2.2)]),((gh g282 0),.row zdW (s281.1))])) (zfF (fun b=>(.exit 2,fun g=>([(53,.val zaB (b.1)),(54,.val zh (b.2.1)),(55,vI (b.2.2.1)),(56,.val (zg (zj .i64)) (b.2.2.2.1)),(57,vI (b.2.2.2.2.1)),(58,.val (zad (zj .i64)) (b.2.2.2.2.2.1)),(59,vI (b.2.2.2.2.2.2.1)),(60,vI (b.2.2.2.2.2.2.2.1)),(61,vB (b.2.2.2.2.2.2.2.2.1))],[(.ptr b288 0,.box [vI (b.2.2.2.2.2.2.2.2.2.1),vI (0),vI (b.2.2.2.2.2.2.2.2.2.2.1),vI (b.2.2.2.2.2.2.2.2.2.2.2.1),vI (b.2.2.2.2.2.2.2.2.2.2.2.2.1),vI (b.2.2.2.2.2.2.2.2.2.2.2.2.2.1),vI (b.2.2.2.2.2.2.2.2.2.2.2.2.2.2.1),vI (b.2.2.2.2.2.2.2.2.2.2.2.2.2.2.2.1),vI (b.2.2.2.2.2.2.2.2.2.2.2.2.2.2.2.2.1),vI (b.2.2.2.2.2.2.2.2.2.2.2.2.2.2.2.2.2.1)]),(.ptr b4 0,.box [vI (b.2.2.2.2.2.2.2.2.2.2.2.2.2.2.2.2.2.2.1),vI (b.2.2.2.2.2.2.2.2.2.2.2.2.2.2.2.2.2.2.2)]),((gh g282 0),.row zdW (s281.1))]))) (fun b=>(.ret,fun g=>([(10,.raw ((gh g 0))),(11,vB (b.2.1))],[((gh g 0),.row zdW (b.1))])))) [] SEL (pk [0,1,2]) NE (fun s371 g372 _ ho=>?_) fun g415=>?_
   ·refine run 2 ?_;refine za9 [1,5] (by kernel_rfl) ?_;refine run 4 ?_;refine wbr ho (fun hb379 ho=>?_) fun hb379 ho=>?_
    ·refine run 11 ?_;refine zaI (.t rfl) (fun _=>?_) (fun hq=>by cases hq);refine run 9 ?_;refine wbr ho (fun hb382 ho=>?_) fun hb382 ho=>?_
     ·refine run 5 ?_;refine zaI (.t rfl) (fun _=>?_) (fun hq=>by cases hq);refine run 2 ?_;refine zaY (zw zdW) ?_;refine zC (.n rfl) rfl rfl .nilr ?_;refine run 2 ?_;cases ho; exact zaj (lf [.nilslice] [0])
     ·refine run 5 ?_;refine wct ho (fun hq384 ho=>?_) fun hq384 ho=>?_
      ·refine run 2 ?_;refine zaY (zw zdW) ?_;refine zC (.n rfl) rfl rfl .nilr ?_;refine run 2 ?_;cases ho; exact zaj (lf [.nilslice] [0])
      ·refine run 4 ?_;refine z5 (R:=zh) (a:=(s371.2.2.2.2.2.2.2.2.2.2.1,s371.2.2.2.2.2.2.2.2.2.2.2,())) 1 (fun _ h=>by cases h<;>rfl) zgp (za (zb rfl) (za (zb rfl) zd rfl) rfl) (.n rfl) rfl rfl (.t rfl) rfl ?_;refine xcl ho ?_;intro y385 hy385 ho;show zo ..;refine run 12 ?_;refine wct ho (fun hq386 ho=>?_) fun hq386 ho=>?_
       ·refine run 2 ?_;refine zaY (zw zdW) ?_;refine zC (.n rfl) rfl rfl .nilr ?_;refine run 2 ?_;cases ho; exact zaj (lf [.nilslice] [0])
       ·refine run 2 ?_;refine za9 [2] (by kernel_rfl) ?_;refine run 2 ?_;refine z5 (R:=zh) (a:=(s371.2.2.2.2.2.2.2.2.2.2.1,s371.2.2.2.2.2.2.2.2.2.2.2,())) 1 (fun _ h=>by cases h<;>rfl) zgp (za (zb rfl) (za (zb rfl) zd rfl) rfl) (.n rfl) rfl rfl (.t rfl) rfl ?_;refine xcl ho ?_;intro y389 hy389 ho;show zo ..;refine xcl ho ?_;intro y390 hy390 ho;show zo ..;refine run 5 ?_;refine z5 (R:=zh) (a:=(s371.2.2.2.2.2.2.2.2.2.2.1,s371.2.2.2.2.2.2.2.2.2.2.2,())) 1 (fun _ h=>by cases h<;>rfl) zgp (za (zb rfl) (za (zb rfl) zd rfl) rfl) (.n rfl) rfl rfl (.t rfl) rfl ?_;refine run 3 ?_;refine xcl ho ?_;intro y391 hy391 ho;show zo ..;refine run 9 ?_;refine z5 (R:=zh) (a:=(s371.2.2.2.2.2.2.2.2.2.2.1,s371.2.2.2.2.2.2.2.2.2.2.2,())) 1 (fun _ h=>by cases h<;>rfl) zgp (za (zb rfl) (za (zb rfl) zd rfl) rfl) (.n rfl) rfl rfl (.t rfl) rfl ?_;refine run 3 ?_;refine xcl ho ?_;intro y392 hy392 ho;show zo ..;refine run 4 ?_;refine xal (zv:=.agg [.int .i64 0,.int .i64 0]) (es:=[vI (0),vI (0)]) (by kernel_rfl) fun b393=>?_;refine xal (zv:=.agg [.int .i64 0,.int .i64 0,.int .i64 0,.int .i64 0,.int .i64 0,.int .i64 0]) (es:=[vI (0),vI (0),vI (0),vI (0),vI (0),vI (0)]) (by kernel_rfl) fun b394=>?_;refine run 1 ?_;refine zaY (zx (R:=zh) (a:=y392.1) 1 [23] (za (zb rfl) (za (zb rfl) zd rfl) rfl) rfl rfl ⟨rfl,trivial⟩) ?_;refine run 1 ?_;refine zaY (zx (R:=zp) (a:=y392.2.1) 0 [24] (za (zb rfl) (za (zb rfl) (za (zb rfl) (za (zb rfl) (za (zb rfl) (za (zb rfl) zd rfl) rfl) rfl) rfl) rfl) rfl) rfl rfl ⟨rfl,trivial⟩) ?_
        refine run 32 ?_;refine ziy (R:=zp) (a:=(s371.2.2.1,s371.2.2.2.1,s371.2.2.2.2.1,s371.2.2.2.2.2.1,s371.2.2.2.2.2.2.1,s371.2.2.2.2.2.2.2.1,())) (off:=2) 0 (fun _ h=>by cases h<;>rfl) znD (za (zb rfl) (za (zb rfl) (za (zb rfl) (za (zb rfl) (za (zb rfl) (za (zb rfl) zd rfl) rfl) rfl) rfl) rfl) rfl) (by exact Nat.le_of_ble_eq_true rfl) (.n rfl) rfl rfl (.t rfl) rfl ?_;refine run 1 ?_;refine xcl ho ?_;intro y395 hy395 ho;show zo ..;refine run 1 ?_;refine zfe (off:=2) (es':=[vI (y395.1),vI (y395.2.1),vI (y395.2.2.1),vI (y395.2.2.2.1),vI (y395.2.2.2.2.1),vI (y395.2.2.2.2.2.1)]) 0 znD rfl (za (zb rfl) (za (zb rfl) (za (zb rfl) (za (zb rfl) (za (zb rfl) (za (zb rfl) zd rfl) rfl) rfl) rfl) rfl) rfl) (by exact Nat.le_of_ble_eq_true rfl) (.n rfl) rfl rfl (.t rfl) (.t rfl) (by rfl) ?_;refine run 5 ?_;cases ho; exact zah (lf [] [0,1,2])
    ·refine run 1 ?_;refine z5 (R:=zh) (a:=(s371.2.2.2.2.2.2.2.2.2.2.1,s371.2.2.2.2.2.2.2.2.2.2.2,())) 1 (fun _ h=>by cases h<;>rfl) zgp (za (zb rfl) (za (zb rfl) zd rfl) rfl) (.g rfl rfl (gf0 hb379)) rfl rfl (.t rfl) rfl ?_;refine xcl ho ?_;intro y396 hy396 ho;show zo ..;refine run 2 ?_;obtain ⟨x397,hx397,ho⟩:=bnd ho;refine run 6 ?_;refine wct ho (fun hq398 ho=>?_) fun hq398 ho=>?_
     ·refine run 9 ?_;refine wbr ho (fun hb400 ho=>?_) fun hb400 ho=>?_
      ·refine run 5 ?_;refine zaI (.t rfl) (fun _=>?_) (fun hq=>by cases hq);refine run 2 ?_;refine zaY (zw zdW) ?_;refine zC (.n rfl) rfl rfl .nilr ?_;refine run 2 ?_;cases ho; exact zaj (lf [.nilslice] [0])
      ·refine run 5 ?_;refine wct ho (fun hq402 ho=>?_) fun hq402 ho=>?_
       ·refine run 2 ?_;refine zaY (zw zdW) ?_;refine zC (.n rfl) rfl rfl .nilr ?_;refine run 2 ?_;cases ho; exact zaj (lf [.nilslice] [0])
       ·refine run 4 ?_;refine z5 (R:=zh) (a:=(s371.2.2.2.2.2.2.2.2.2.2.1,s371.2.2.2.2.2.2.2.2.2.2.2,())) 1 (fun _ h=>by cases h<;>rfl) zgp (za (zb rfl) (za (zb rfl) zd rfl) rfl) (.n rfl) rfl rfl (.t rfl) rfl ?_;refine xcl ho ?_;intro y403 hy403 ho;show zo ..;refine run 12 ?_;refine wct ho (fun hq404 ho=>?_) fun hq404 ho=>?_
        ·refine run 2 ?_;refine zaY (zw zdW) ?_;refine zC (.n rfl) rfl rfl .nilr ?_;refine run 2 ?_;cases ho; exact zaj (lf [.nilslice] [0])
        ·refine run 2 ?_;refine za9 [2] (by kernel_rfl) ?_;refine run 2 ?_;refine z5 (R:=zh) (a:=(s371.2.2.2.2.2.2.2.2.2.2.1,s371.2.2.2.2.2.2.2.2.2.2.2,())) 1 (fun _ h=>by cases h<;>rfl) zgp (za (zb rfl) (za (zb rfl) zd rfl) rfl) (.n rfl) rfl rfl (.t rfl) rfl ?_;refine xcl ho ?_;intro y407 hy407 ho;show zo ..;refine xcl ho ?_;intro y408 hy408 ho;show zo ..;refine run 5 ?_;refine z5 (R:=zh) (a:=(s371.2.2.2.2.2.2.2.2.2.2.1,s371.2.2.2.2.2.2.2.2.2.2.2,())) 1 (fun _ h=>by cases h<;>rfl) zgp (za (zb rfl) (za (zb rfl) zd rfl) rfl) (.n rfl) rfl rfl (.t rfl) rfl ?_;refine run 3 ?_;refine xcl ho ?_;intro y409 hy409 ho;show zo ..;refine run 9 ?_;refine z5 (R:=zh) (a:=(s371.2.2.2.2.2.2.2.2.2.2.1,s371.2.2.2.2.2.2.2.2.2.2.2,())) 1 (fun _ h=>by cases h<;>rfl) zgp (za (zb rfl) (za (zb rfl) zd rfl) rfl) (.n rfl) rfl rfl (.t rfl) rfl ?_;refine run 3 ?_;refine xcl ho ?_;intro y410 hy410 ho;show zo ..;refine run 4 ?_;refine xal (zv:=.agg [.int .i64 0,.int .i64 0]) (es:=[vI (0),vI (0)]) (by kernel_rfl) fun b411=>?_;refine xal (zv:=.agg [.int .i64 0,.int .i64 0,.int .i64 0,.int .i64 0,.int .i64 0,.int .i64 0]) (es:=[vI (0),vI (0),vI (0),vI (0),vI (0),vI (0)]) (by kernel_rfl) fun b412=>?_;refine run 1 ?_;refine zaY (zx (R:=zh) (a:=y410.1) 1 [23] (za (zb rfl) (za (zb rfl) zd rfl) rfl) rfl rfl ⟨rfl,trivial⟩) ?_;refine run 1 ?_;refine zaY (zx (R:=zp) (a:=y410.2.1) 0 [24] (za (zb rfl) (za (zb rfl) (za (zb rfl) (za (zb rfl) (za (zb rfl) (za (zb rfl) zd rfl) rfl) rfl) rfl) rfl) rfl) rfl rfl ⟨rfl,trivial⟩) ?_
         refine run 32 ?_;refine ziy (R:=zp) (a:=(s371.2.2.1,s371.2.2.2.1,s371.2.2.2.2.1,s371.2.2.2.2.2.1,s371.2.2.2.2.2.2.1,s371.2.2.2.2.2.2.2.1,())) (off:=2) 0 (fun _ h=>by cases h<;>rfl) znD (za (zb rfl) (za (zb rfl) (za (zb rfl) (za (zb rfl) (za (zb rfl) (za (zb rfl) zd rfl) rfl) rfl) rfl) rfl) rfl) (by exact Nat.le_of_ble_eq_true rfl) (.n rfl) rfl rfl (.t rfl) rfl ?_;refine run 1 ?_;refine xcl ho ?_;intro y413 hy413 ho;show zo ..;refine run 1 ?_;refine zfe (off:=2) (es':=[vI (y413.1),vI (y413.2.1),vI (y413.2.2.1),vI (y413.2.2.2.1),vI (y413.2.2.2.2.1),vI (y413.2.2.2.2.2.1)]) 0 znD rfl (za (zb rfl) (za (zb rfl) (za (zb rfl) (za (zb rfl) (za (zb rfl) (za (zb rfl) zd rfl) rfl) rfl) rfl) rfl) rfl) (by exact Nat.le_of_ble_eq_true rfl) (.n rfl) rfl rfl (.t rfl) (.t rfl) (by rfl) ?_;refine run 5 ?_;cases ho; exact zah (lf [] [0,1,2])
     ·cases ho; exact zas (lf [] [0,1,2])
   ·rcases t414 with b416 | b417
    ·have ho:=zck ho;show zap ..;refine run 3 ?_;refine z5 (R:=zh) (a:=(b416.2.2.2.2.2.2.2.2.2.2.2.2.2.2.2.2.2.2.1,b416.2.2.2.2.2.2.2.2.2.2.2.2.2.2.2.2.2.2.2,())) 1 (fun _ h=>by cases h<;>rfl) zgp (za (zb rfl) (za (zb rfl) zd rfl) rfl) (.n rfl) rfl rfl (.t rfl) rfl ?_;refine xcl ho ?_;intro y418 hy418 ho;show zo ..;refine run 5 ?_;refine z5 (R:=zdW) (a:=(b416.2.2.2.2.2.2.2.2.2.1,y418,(b416.2.2.2.2.2.2.2.2.2.2.1,b416.2.2.2.2.2.2.2.2.2.2.2.1,b416.2.2.2.2.2.2.2.2.2.2.2.2.1,b416.2.2.2.2.2.2.2.2.2.2.2.2.2.1,b416.2.2.2.2.2.2.2.2.2.2.2.2.2.2.1,b416.2.2.2.2.2.2.2.2.2.2.2.2.2.2.2.1,()),b416.2.2.2.2.2.2.2.2.2.2.2.2.2.2.2.2.1,b416.2.2.2.2.2.2.2.2.2.2.2.2.2.2.2.2.2.1,())) 0 (fun _ h=>by cases h<;>rfl) ztB (za (zb rfl) (za (zb rfl) (za (za (zb rfl) (za (zb rfl) (za (zb rfl) (za (zb rfl) (za (zb rfl) (za (zb rfl) zd rfl) rfl) rfl) rfl) rfl) rfl) (za (zb rfl) (za (zb rfl) zd rfl) rfl) rfl) rfl) rfl) (.n rfl) rfl rfl (.t rfl) rfl ?_;refine run 1 ?_;obtain ⟨x419,hx419,ho⟩:=bnd ho;refine xap fun v420=>?_;refine run 6 ?_;cases ho; exact zah (lf [v420] [2,0])
    ·have ho:=zcl ho;cases ho; exact id (lf [(gh g415 0)] [0])
  ·cases ho; exact zas (lf [(gh g282 0)] [0,1])
 ·rcases t421 with b423 | b424
  ·have ho:=zck ho;show zap ..;refine run 1 ?_;refine za9 [2] (by kernel_rfl) ?_;exact w ho
  ·have ho:=zcl ho;cases ho; exact id (zF (.inr rfl) (.r 0 rfl rfl (.v rfl .n)) (by decide))⟩
instance i104 {p_0 way_1 t_2 state_3 stops_4}:FI ktab 104 (zeH p_0 way_1 t_2 state_3 stops_4) [.val zaJ p_0,.val (zg zy) way_1,.val zaB t_2,vI state_3,.val (zg (zj .i64)) stops_4] (fun out=>[.row (zj .i64) (out.1),.val zB (out.2)]):=⟨fun out ho=>by
 delta zeH at ho;refine fn fun _ _=>?_;refine run 4 ?_;refine zaY (zw (zj .i64)) ?_;refine zC (.n rfl) rfl rfl .nilr ?_;refine run 10 ?_;refine xcl ho ?_;intro y1 hy1 ho;show zo ..;refine run 2 ?_;refine wct ho (fun hq2 ho=>?_) fun hq2 ho=>?_
 ·refine run 2 ?_;refine zaY (zw (zj .i64)) ?_;refine zC (.n rfl) rfl rfl .nilr ?_;exact w ho
 ·refine run 8 ?_;refine xcl ho ?_;intro y3 hy3 ho v4;show zo ..;refine run 8 ?_;refine zaY (zw (zj .i64)) ?_;refine zC (.n rfl) rfl rfl .nilr ?_;refine run 7 ?_;obtain ⟨t15,ht15,ho⟩:=bnd ho;refine wlp ht15 [12,13] (fun s g=>([(14,.raw ((gh g 0))),(15,vI (s.2))],[(v4,.row zdW (y3.1)),((gh g 0),.row (zj .i64) (s.1))])) (fun b=>(.exit 0,fun g=>([(14,.raw ((gh g 0)))],[((gh g 0),.row (zj .i64) (b))]))) [.nilslice] SEL (pk [1,0]) NE (fun s9 g10 _ ho=>?_) fun g16=>?_
  ·refine run 8 ?_;refine wct ho (fun hq11 ho=>?_) fun hq11 ho=>?_
   ·refine run 7 ?_;obtain ⟨x12,hx12,ho⟩:=bnd ho;refine run 2 ?_;refine znp 0 (fun _ h=>by cases h<;>rfl) U3 zom (zeE hx12).2.2.2 (.n rfl) rfl rfl (.t rfl) rfl ?_;refine run 1 ?_;obtain ⟨x13,hx13,ho⟩:=bnd ho;refine xap fun v14=>?_;refine run 6 ?_;cases ho; exact zah (lf [v14] [1,0])
   ·cases ho; exact zas (lf [(gh g10 0)] [1])
  ·show zap ..;exact w ho⟩
instance i66 {p_0 l_1 home_2}:FI ktab 66 (zcp p_0 l_1 home_2) [.val zaJ p_0,.val zbO l_1,vB home_2] (fun out=>[.row (zj .i64) (out.1),.val zB (out.2)]):=⟨fun out ho=>by
 delta zcp at ho;refine fn fun _ _=>?_;refine run 4 ?_;refine zaY (zw (zj .i64)) ?_;refine zC (.n rfl) rfl rfl .nilr ?_;refine run 6 ?_;refine xcl ho ?_;intro y1 hy1 ho;show zo ..;refine xal (zv:=.agg [.nilslice,.nilslice,.nilslice]) (es:=[.val (zg zy) ([]),.val (zg (zj .i64)) ([]),.val (zg (zj .i64)) ([])]) (by kernel_rfl) fun b2=>?_;refine run 1 ?_;refine zaY (zx (R:=zbo) (a:=y1) 0 [8] (za (zb rfl) (za (zb rfl) (za (zb rfl) zd rfl) rfl) rfl) rfl rfl ⟨rfl,trivial⟩) ?_;refine run 3 ?_;obtain ⟨c11,hc11,ho⟩:=bnd ho;refine wcx c11 [3,4,8] (fun t=>(.normal,fun _=>([(55,vB (t))],[(.nilslice,.row (zj .i64) ([]))]))) SEL ?_ fun _=>?_
 ·have ho:=hc11;refine run 4 ?_;refine xcl ho ?_;intro y12 hy12 ho;show zo ..;refine run 2 ?_;refine wbr ho (fun hb13 ho=>?_) fun hb13 ho=>?_
  ·refine run 33 ?_;cases ho; exact zah (lf [] [0])
  ·refine run 3 ?_;refine xcl ho ?_;intro y14 hy14 ho;show zo ..;refine run 3 ?_;refine wbr ho (fun hb15 ho=>?_) fun hb15 ho=>?_
   ·refine run 26 ?_;cases ho; exact zah (lf [] [0])
   ·refine run 9 ?_;refine wbr ho (fun hb16 ho=>?_) fun hb16 ho=>?_
    ·refine run 17 ?_;cases ho; exact zah (lf [] [0])
    ·refine run 2 ?_;obtain ⟨x17,hx17,ho⟩:=bnd ho;refine run 5 ?_;refine wbr ho (fun hb18 ho=>?_) fun hb18 ho=>?_
     ·refine run 10 ?_;cases ho; exact zah (lf [] [0])
     ·refine run 6 ?_;obtain ⟨x19,hx19,ho⟩:=bnd ho;refine run 4 ?_;cases ho; exact zah (lf [] [0])
 ·show zap ..;refine wct ho (fun hq20 ho=>?_) fun hq20 ho=>?_
  ·refine run 2 ?_;refine zaY (zw (zj .i64)) ?_;refine zC (.n rfl) rfl rfl .nilr ?_;exact w ho
  ·refine run 7 ?_;obtain ⟨t93,ht93,ho⟩:=bnd ho;refine wlp ht93 [3,4,8] (fun s g=>([(9,vI (s))],[])) (zfF (fun b=>(.exit 0,fun g=>([],[]))) (fun b=>(.ret,fun g=>([(6,.raw ((gh g 0))),(7,vB (b.2))],[((gh g 0),.row (zj .i64) (b.1))])))) [] SEL (pk []) NE (fun s56 g57 _ ho=>?_) fun g94=>?_
   ·refine run 9 ?_;refine wct ho (fun hq58 ho=>?_) fun hq58 ho=>?_
    ·refine run 8 ?_;obtain ⟨x79,hx79,ho⟩:=bnd ho;refine run 5 ?_;refine xcl ho ?_;intro y80 hy80 ho;show zo ..;refine xcl ho ?_;intro y81 hy81 ho;show zo ..;refine run 2 ?_;refine wbr ho (fun hb82 ho=>?_) fun hb82 ho=>?_
     ·refine run 27 ?_;refine zaI (.t rfl) (fun _=>?_) (fun hq=>by cases hq);refine run 2 ?_;refine zaY (zw (zj .i64)) ?_;refine zC (.n rfl) rfl rfl .nilr ?_;refine run 2 ?_;cases ho; exact zaj (lf [.nilslice] [0])
     ·refine run 3 ?_;obtain ⟨x84,hx84,ho⟩:=bnd ho;refine run 2 ?_;refine xcl ho ?_;intro y85 hy85 ho;show zo ..;refine run 3 ?_;refine wbr ho (fun hb86 ho=>?_) fun hb86 ho=>?_
      ·refine run 18 ?_;refine zaI (.t rfl) (fun _=>?_) (fun hq=>by cases hq);refine run 2 ?_;refine zaY (zw (zj .i64)) ?_;refine zC (.n rfl) rfl rfl .nilr ?_;refine run 2 ?_;cases ho; exact zaj (lf [.nilslice] [0])
      ·refine run 3 ?_;refine wbr ho (fun hb88 ho=>?_) fun hb88 ho=>?_
       ·refine run 3 ?_;obtain ⟨x89,hx89,ho⟩:=bnd ho;refine run 6 ?_;obtain ⟨x90,hx90,ho⟩:=bnd ho;refine run 6 ?_;refine wct ho (fun hq91 ho=>?_) fun hq91 ho=>?_
        ·refine run 2 ?_;refine zaY (zw (zj .i64)) ?_;refine zC (.n rfl) rfl rfl .nilr ?_;refine run 2 ?_;cases ho; exact zaj (lf [.nilslice] [0])
        ·exact w ho
       ·refine run 15 ?_;refine zaI (.t rfl) (fun hq=>by cases hq) (fun _=>?_);exact w ho
    ·cases ho; exact zas (lf [] [])
   ·rcases t93 with b95 | b96
    ·have ho:=zck ho;show zap ..;refine run 11 ?_;refine xcl ho ?_;intro y97 hy97 ho v98;show zo ..;refine run 12 ?_;refine wct ho (fun hq99 ho=>?_) fun hq99 ho=>?_
     ·refine run 2 ?_;refine zaY (zw (zj .i64)) ?_;refine zC (.n rfl) rfl rfl .nilr ?_;exact w ho
     ·refine run 3 ?_;refine zaY (zw (zj .i64)) ?_;refine zC (.n rfl) rfl rfl .nilr ?_;refine run 7 ?_;obtain ⟨t112,ht112,ho⟩:=bnd ho;refine wlp ht112 [10] (fun s g=>([(12,.raw ((gh g 0))),(13,vI (s.2))],[(v98,.row (zj .i64) (y97.1)),((gh g 0),.row (zj .i64) (s.1))])) (fun b=>(.exit 2,fun g=>([(12,.raw ((gh g 0)))],[((gh g 0),.row (zj .i64) (b))]))) [.nilslice] SEL (pk [1,0]) NE (fun s105 g106 _ ho=>?_) fun g113=>?_
      ·refine run 8 ?_;refine wct ho (fun hq107 ho=>?_) fun hq107 ho=>?_
       ·refine run 7 ?_;obtain ⟨x108,hx108,ho⟩:=bnd ho;refine run 3 ?_;obtain ⟨x109,hx109,ho⟩:=bnd ho;refine run 3 ?_;obtain ⟨x110,hx110,ho⟩:=bnd ho;refine xap fun v111=>?_;refine run 6 ?_;cases ho; exact zah (lf [v111] [1,0])
       ·cases ho; exact zas (lf [(gh g106 0)] [1])
      ·show zap ..;exact w ho
    ·have ho:=zcl ho;cases ho; exact id (zF (.inr rfl) (.r 0 rfl rfl (.v rfl .n)) (by decide))⟩
instance i37 {p_0 l_1 home_2}:FI ktab 37 (zed p_0 l_1 home_2) [.val zaJ p_0,.val zbO l_1,vB home_2] (fun out=>[.row (zj .i64) (out)]):=⟨fun out ho=>by
 delta zed at ho;refine fn fun _ _=>?_;refine run 4 ?_;refine zC (.n rfl) rfl rfl (.nil (R:=(zj .i64))) ?_;refine run 6 ?_;refine xcl ho ?_;intro y1 hy1 ho v2;exact w ho⟩
instance i24 {p_0 l_1 home_2}:FI ktab 24 (zaN p_0 l_1 home_2) [.val zaJ p_0,.val zbO l_1,vB home_2] (fun out=>[.row (zj .i64) (out)]):=⟨fun out ho=>by
 delta zaN at ho;refine fn fun _ _=>?_;refine run 4 ?_;refine zaY (zw (zj .i64)) ?_;refine zC (.n rfl) rfl rfl .nilr ?_;refine run 5 ?_;refine xcl ho ?_;intro y1 hy1 ho;show zo ..;refine xal (zv:=.agg [.nilslice,.nilslice,.nilslice]) (es:=[.val (zg zy) ([]),.val (zg (zj .i64)) ([]),.val (zg (zj .i64)) ([])]) (by kernel_rfl) fun b2=>?_;refine run 1 ?_;refine zaY (zx (R:=zbo) (a:=y1) 0 [7] (za (zb rfl) (za (zb rfl) (za (zb rfl) zd rfl) rfl) rfl) rfl rfl ⟨rfl,trivial⟩) ?_;refine run 6 ?_;refine xcl ho ?_;intro y3 hy3 ho v4;show zo ..;refine run 4 ?_;refine zx0 (R:=(zj .i64)) S27 Y3 (.n rfl) rfl rfl (.c (.i (by decide) (by decide)) .n) rfl (by decide) ?_;intro v5;refine run 8 ?_;obtain ⟨t30,ht30,ho⟩:=bnd ho;refine wlp ht30 [7,8] (fun s g=>([(9,.raw ((gh g 0))),(10,vI (s.2))],[(v4,.row (zj .i64) (y3)),((gh g 0),.row (zj .i64) (s.1))])) (fun b=>(.exit 0,fun g=>([(9,.raw ((gh g 0)))],[((gh g 0),.row (zj .i64) (b))]))) [v5] SEL (pk [1,0]) NE (fun s17 g18 _ ho=>?_) fun g31=>?_
 ·refine run 8 ?_;refine wct ho (fun hq19 ho=>?_) fun hq19 ho=>?_
  ·refine run 3 ?_;refine za9 [4,8] (by kernel_rfl) ?_;refine run 3 ?_;obtain ⟨x25,hx25,ho⟩:=bnd ho;refine run 4 ?_;obtain ⟨x26,hx26,ho⟩:=bnd ho;refine run 7 ?_;obtain ⟨x27,hx27,ho⟩:=bnd ho;refine run 4 ?_;obtain ⟨x28,hx28,ho⟩:=bnd ho;refine xap fun v29=>?_;refine run 6 ?_;cases ho; exact zah (lf [v29] [1,0])
  ·cases ho; exact zas (lf [(gh g18 0)] [1])
 ·show zap ..;exact w ho⟩
instance i22 {p_0 l_1}:FI ktab 22 (zcN p_0 l_1) [.val zaJ p_0,.val zbO l_1] (fun out=>[.val zB (out)]):=⟨fun out ho=>by
 delta zcN at ho;refine fn fun _ _=>?_;refine run 11 ?_;refine xcl ho ?_;intro y1 hy1 ho;show zo ..;refine run 2 ?_;refine wct ho (fun hq2 ho=>?_) fun hq2 ho=>?_
 ·exact w ho
 ·refine run 7 ?_;obtain ⟨t21,ht21,ho⟩:=bnd ho;refine wlp ht21 [2,3] (fun s g=>([(5,vI (s))],[])) (zfF (fun b=>(.exit 0,fun g=>([],[]))) (fun b=>(.ret,fun g=>([(4,vB (b))],[])))) [] SEL (pk []) NE (fun s11 g12 _ ho=>?_) fun g22=>?_
  ·refine run 6 ?_;refine wct ho (fun hq13 ho=>?_) fun hq13 ho=>?_
   ·refine run 10 ?_;refine xcl ho ?_;intro y14 hy14 ho v15;show zo ..;refine run 11 ?_;refine wct ho (fun hq16 ho=>?_) fun hq16 ho=>?_
    ·exact w ho
    ·refine run 7 ?_;refine xcl ho ?_;intro y17 hy17 ho v18;exact w ho
   ·cases ho; exact zas (lf [] [])
  ·rcases t21 with b23 | b24
   ·have ho:=zck ho;show zap ..;exact w ho
   ·have ho:=zcl ho;cases ho; exact id (zF (.inr rfl) (.v rfl .n) (by decide))⟩
instance i26 {p_0 s_1}:FI ktab 26 (zeI p_0 s_1) [.val zaJ p_0,.val zcb s_1] (fun out=>[.val zB (out)]):=⟨fun out ho=>by
 delta zeI at ho;refine fn fun _ _=>?_;refine run 12 ?_;obtain ⟨t11,ht11,ho⟩:=bnd ho;refine wlp ht11 [2,3] (fun s g=>([(5,vI (s))],[])) (zfF (fun b=>(.exit 0,fun g=>([],[]))) (fun b=>(.ret,fun g=>([(4,vB (b))],[])))) [] SEL (pk []) NE (fun s5 g6 _ ho=>?_) fun g12=>?_
 ·exact w ho
 ·rcases t11 with b13 | b14
  ·have ho:=zck ho;show zap ..;refine run 1 ?_;obtain ⟨c19,hc19,ho⟩:=bnd ho;refine wcx c19 [] (fun t=>(.normal,fun _=>([(4,vB (t))],[]))) SEL ?_ fun _=>?_
   ·exact w hc19
   ·show zap ..;cases ho; exact zaj (zF (.inr rfl) (.v rfl .n) (by decide))
  ·have ho:=zcl ho;cases ho; exact id (zF (.inr rfl) (.v rfl .n) (by decide))⟩
instance i27 {p_0 s_1}:FI ktab 27 (zcO p_0 s_1) [.val zaJ p_0,.val zcb s_1] (fun out=>[.val zB (out)]):=⟨fun out ho=>by
 delta zcO at ho;refine fn fun _ _=>?_;refine run 8 ?_;obtain ⟨c6,hc6,ho⟩:=bnd ho;refine wcx c6 [2,3] (fun t=>(.normal,fun _=>([(33,vB (t))],[]))) SEL ?_ fun _=>?_
 ·exact w hc6
 ·show zap ..;refine wct ho (fun hq12 ho=>?_) fun hq12 ho=>?_
  ·exact w ho
  ·refine run 7 ?_;obtain ⟨t77,ht77,ho⟩:=bnd ho;refine wlp ht77 [2,3] (fun s g=>([(5,vI (s))],[])) (zfF (fun b=>(.exit 0,fun g=>([],[]))) (fun b=>(.ret,fun g=>([(4,vB (b))],[])))) [] SEL (pk []) NE (fun s44 g45 _ ho=>?_) fun g78=>?_
   ·refine run 9 ?_;refine wct ho (fun hq46 ho=>?_) fun hq46 ho=>?_
    ·refine run 9 ?_;obtain ⟨x65,hx65,ho⟩:=bnd ho;refine run 2 ?_;refine xcl ho ?_;intro y66 hy66 ho;show zo ..;refine run 2 ?_;refine wbr ho (fun hb67 ho=>?_) fun hb67 ho=>?_
     ·refine run 24 ?_;refine zaI (.t rfl) (fun _=>?_) (fun hq=>by cases hq);exact w ho
     ·refine run 3 ?_;obtain ⟨x69,hx69,ho⟩:=bnd ho;refine run 2 ?_;refine xcl ho ?_;intro y70 hy70 ho;show zo ..;refine run 3 ?_;refine wbr ho (fun hb71 ho=>?_) fun hb71 ho=>?_
      ·refine run 15 ?_;refine zaI (.t rfl) (fun _=>?_) (fun hq=>by cases hq);exact w ho
      ·exact w ho
    ·cases ho; exact zas (lf [] [])
   ·rcases t77 with b79 | b80
    ·have ho:=zck ho;show zap ..;exact w ho
    ·have ho:=zcl ho;cases ho; exact id (zF (.inr rfl) (.v rfl .n) (by decide))⟩
instance i85 {p_0 l_1}:FI ktab 85 (zcP p_0 l_1) [.val zaJ p_0,.val (zg zbO) l_1] (fun out=>[.row (zad zn) (out.1),.val zB (out.2)]):=⟨fun out ho=>by
 delta zcP at ho;refine fn fun _ _=>?_;refine run 3 ?_;refine zaY (zw (zad zn)) ?_;refine zC (.n rfl) rfl rfl .nilr ?_;refine run 7 ?_;refine xcl ho ?_;intro y1 hy1 ho;show zo ..;refine run 2 ?_;refine wct ho (fun hq2 ho=>?_) fun hq2 ho=>?_
 ·refine run 2 ?_;refine zaY (zw (zad zn)) ?_;refine zC (.n rfl) rfl rfl .nilr ?_;exact w ho
 ·refine run 3 ?_;refine zaY (zw (zad zn)) ?_;refine zC (.n rfl) rfl rfl .nilr ?_;refine run 9 ?_;obtain ⟨t21,ht21,ho⟩:=bnd ho;refine wlp ht21 [2,15,16] (fun s g=>([(6,.raw ((gh g 0))),(17,vI (s.2))],[((gh g 0),.row (zad zn) (s.1))])) (zfF (fun b=>(.exit 0,fun g=>([(6,.raw ((gh g 0)))],[((gh g 0),.row (zad zn) (b))]))) (fun b=>(.ret,fun g=>([(4,.raw ((gh g 0))),(5,vB (b.2))],[((gh g 0),.row (zad zn) (b.1))])))) [.nilslice] SEL (pk [0]) NE (fun s11 g12 _ ho=>?_) fun g22=>?_
  ·refine run 5 ?_;refine wct ho (fun hq13 ho=>?_) fun hq13 ho=>?_
   ·refine run 5 ?_;obtain ⟨x14,hx14,ho⟩:=bnd ho;refine run 2 ?_;refine xal (zv:=.agg [.nilslice,.nilslice,.nilslice,.nilslice,.nilslice,.nilslice,.int .i64 0,.int .i64 0,.int .i64 0,.int .i64 0,.int .i64 0,.int .i64 0,.int .i64 0,.int .i64 0,.int .i64 0,.nilslice,.int .i64 0,.int .i64 0]) (es:=[.val (zg zy) ([]),.val (zg (zj .i64)) ([]),.val (zg (zj .i64)) ([]),.val (zg zy) ([]),.val (zg (zj .i64)) ([]),.val (zg (zj .i64)) ([]),vI (0),vI (0),vI (0),vI (0),vI (0),vI (0),vI (0),vI (0),vI (0),.val (zg (zj .i64)) ([]),vI (0),vI (0)]) (by kernel_rfl) fun b15=>?_;refine run 1 ?_;refine zaY (zx (R:=zbO) (a:=x14) 0 [8] (za (za (zb rfl) (za (zb rfl) (za (zb rfl) zd rfl) rfl) rfl) (za (za (zb rfl) (za (zb rfl) (za (zb rfl) zd rfl) rfl) rfl) (za (za (zb rfl) (za (zb rfl) (za (zb rfl) (za (zb rfl) (za (zb rfl) (za (zb rfl) (za (zb rfl) (za (zb rfl) (za (zb rfl) (za (zb rfl) zd rfl) rfl) rfl) rfl) rfl) rfl) rfl) rfl) rfl) rfl) (za (zb rfl) (za (zb rfl) zd rfl) rfl) rfl) rfl) rfl) rfl rfl ⟨rfl,trivial⟩) ?_;refine run 5 ?_;refine xcl ho ?_;intro y16 hy16 ho;show zo ..;refine run 12 ?_;refine wct ho (fun hq17 ho=>?_) fun hq17 ho=>?_
    ·refine run 2 ?_;refine zaY (zw (zad zn)) ?_;refine zC (.n rfl) rfl rfl .nilr ?_;refine run 2 ?_;cases ho; exact zaj (lf [.nilslice] [0])
    ·refine run 4 ?_;obtain ⟨p18,hp18,ho⟩:=bnd ho;refine zaY (zcu (n:=30) hp18 rfl) ?_;refine run 1 ?_;obtain ⟨x19,hx19,ho⟩:=bnd ho;refine xap fun v20=>?_;refine run 5 ?_;cases ho; exact zah (lf [v20] [0])
   ·cases ho; exact zas (lf [(gh g12 0)] [0])
  ·rcases t21 with b23 | b24
   ·have ho:=zck ho;show zap ..;exact w ho
   ·have ho:=zcl ho;cases ho; exact id (zF (.inr rfl) (.r 0 rfl rfl (.v rfl .n)) (by decide))⟩
instance i69 {p_0 s_1}:FI ktab 69 (zcg p_0 s_1) [.val zaJ p_0,.val zcb s_1] (fun out=>[.val (zg (zad zn)) (out.1),.val zB (out.2)]):=⟨fun out ho=>by
 delta zcg at ho;refine fn fun _ _=>?_;refine run 4 ?_;refine zC (.n rfl) rfl rfl (.nil (R:=(zad zn))) ?_;refine run 4 ?_;obtain ⟨c2,hc2,ho⟩:=bnd ho;refine wcx c2 [2,3] (fun t=>(.normal,fun _=>([(23,vB (t))],[]))) SEL ?_ fun _=>?_
 ·exact w hc2
 ·show zap ..;refine wct ho (fun hq4 ho=>?_) fun hq4 ho=>?_
  ·refine run 2 ?_;refine zC (.n rfl) rfl rfl (.nil (R:=(zad zn))) ?_;exact w ho
  ·refine run 10 ?_;obtain ⟨t31,ht31,ho⟩:=bnd ho;refine wlp ht31 [2,3,25,26] (fun s g=>([(27,vI (s))],[])) (zfF (fun b=>(.exit 0,fun g=>([],[]))) (fun b=>(.ret,fun g=>([(4,.val (zg (zad zn)) (b.1)),(5,vB (b.2))],[])))) [] SEL (pk []) NE (fun s17 g18 _ ho=>?_) fun g32=>?_
   ·refine run 5 ?_;refine wct ho (fun hq19 ho=>?_) fun hq19 ho=>?_
    ·refine run 6 ?_;obtain ⟨x20,hx20,ho⟩:=bnd ho;refine run 8 ?_;refine xcl ho ?_;intro y25 hy25 ho;show zo ..;refine run 2 ?_;refine wbr ho (fun hb26 ho=>?_) fun hb26 ho=>?_
     ·refine run 11 ?_;refine zaI (.t rfl) (fun _=>?_) (fun hq=>by cases hq);refine run 2 ?_;refine zC (.n rfl) rfl rfl (.nil (R:=(zad zn))) ?_;exact w ho
     ·refine run 3 ?_;obtain ⟨x28,hx28,ho⟩:=bnd ho;refine run 4 ?_;refine xcl ho ?_;intro y29 hy29 ho;show zo ..;refine run 3 ?_;refine wct ho (fun hq30 ho=>?_) fun hq30 ho=>?_
      ·refine run 2 ?_;refine zC (.n rfl) rfl rfl (.nil (R:=(zad zn))) ?_;exact w ho
      ·exact w ho
    ·cases ho; exact zas (lf [] [])
   ·rcases t31 with b33 | b34
    ·have ho:=zck ho;show zap ..;refine run 5 ?_;refine xcl ho ?_;intro y35 hy35 ho v36;show zo ..;refine run 5 ?_;cases ho;refine zoa (zi7 0 [51,4] rfl rfl ⟨rfl,rfl,trivial⟩) ?_;exact zaj (zF (.inr rfl) (.v rfl (.v rfl .n)) (by decide))
    ·have ho:=zcl ho;cases ho; exact id (zF (.inr rfl) (.v rfl (.v rfl .n)) (by decide))⟩
end Go.Ai.TabYtppebpagcocogaaGreat
