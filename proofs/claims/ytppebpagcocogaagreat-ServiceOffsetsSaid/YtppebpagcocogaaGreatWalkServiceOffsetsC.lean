/- Written by program: walks through functions. -/
import Derived.Test.YtppebpagcocogaaGreatQ21
set_option linter.unusedSimpArgs false
set_option linter.unusedVariables false
set_option linter.unusedSectionVars false
namespace Go.Ai.TabYtppebpagcocogaaGreat
open Go Go.Ai Go.Ai.Sx Go.Proofs
attribute [local irreducible] zo
set_option maxRecDepth 100000
set_option maxHeartbeats 4000000
instance i23 {a_0 b_1}:FI ktab 23 (zee a_0 b_1) [.val (zg (zj .i64)) a_0,.val (zg (zj .i64)) b_1] (fun out=>[.val zB (out)]):=⟨fun out ho=>by
 delta zee at ho;refine fn fun _ _=>?_;refine run 13 ?_;refine wct ho (fun hq1 ho=>?_) fun hq1 ho=>?_
 ·exact w ho
 ·refine run 7 ?_;obtain ⟨t16,ht16,ho⟩:=bnd ho;refine wlp ht16 [0,1] (fun s g=>([(5,vI (s))],[])) (zfF (fun b=>(.exit 0,fun g=>([],[]))) (fun b=>(.ret,fun g=>([(4,vB (b))],[])))) [] SEL (pk []) NE (fun s8 g9 _ ho=>?_) fun g17=>?_
  ·exact w ho
  ·rcases t16 with b18 | b19
   ·have ho:=zck ho;show zap ..;exact w ho
   ·have ho:=zcl ho;cases ho; exact id (zF (.inr rfl) (.v rfl .n) (by decide))⟩
instance i68 {p_0 l_1 home_2}:FI ktab 68 (zc1 p_0 l_1 home_2) [.val zaJ p_0,.val zbO l_1,vB home_2] (fun out=>[.val (zj .i64) (out)]):=⟨fun out ho=>by
 delta zc1 at ho;refine fn fun _ _=>?_;refine run 11 ?_;refine xcl ho ?_;intro y1 hy1 ho v2;exact w ho⟩
instance i25 {p_0 l_1}:FI ktab 25 (zdF p_0 l_1) [.val zaJ p_0,.val zbO l_1] (fun out=>[.val (zj .i64) (out)]):=⟨fun out ho=>by
 delta zdF at ho;refine fn fun _ _=>?_;exact w ho⟩
instance i3 {p_0 l_1 home_2 headway_3}:FI ktab 3 (zbk p_0 l_1 home_2 headway_3) [.val zaJ p_0,.val zbO l_1,vB home_2,vI headway_3] (fun out=>[.val zB (out)]):=⟨fun out ho=>by
 delta zbk at ho;refine fn fun _ _=>?_;refine run 8 ?_;obtain ⟨c4,hc4,ho⟩:=bnd ho;refine wcx c4 [2,3,4,5] (fun t=>(.normal,fun _=>([(22,vB (t))],[]))) SEL ?_ fun _=>?_
 ·exact w hc4
 ·show zap ..;refine wct ho (fun hq8 ho=>?_) fun hq8 ho=>?_
  ·exact w ho
  ·refine run 6 ?_;refine xcl ho ?_;intro y10 hy10 ho;show zo ..;refine run 10 ?_;refine xcl ho ?_;intro y11 hy11 ho;show zo ..;refine run 11 ?_;refine xcl ho ?_;intro y12 hy12 ho;show zo ..;refine run 8 ?_;obtain ⟨c16,hc16,ho⟩:=bnd ho;refine wcx c16 [2,3,4,5,9,10,11,12,13,14] (fun t=>(.normal,fun _=>([(52,vB (t))],[]))) SEL ?_ fun _=>?_
   ·exact w hc16
   ·show zap ..;refine wct ho (fun hq20 ho=>?_) fun hq20 ho=>?_
    ·refine run 1 ?_;obtain ⟨c28,hc28,ho⟩:=bnd ho;refine wcx c28 [] (fun t=>(.normal,fun _=>([(8,vB (t))],[]))) SEL ?_ fun _=>?_
     ·exact w hc28
     ·show zap ..;cases ho; exact zaj (zF (.inr rfl) (.v rfl .n) (by decide))
    ·refine run 7 ?_;refine wbr ho (fun hb43 ho=>?_) fun hb43 ho=>?_
     ·refine run 20 ?_;refine zaI (.t rfl) (fun _=>?_) (fun hq=>by cases hq);exact w ho
     ·refine run 4 ?_;refine wbr ho (fun hb45 ho=>?_) fun hb45 ho=>?_
      ·refine run 16 ?_;refine zaI (.t rfl) (fun _=>?_) (fun hq=>by cases hq);exact w ho
      ·refine run 4 ?_;refine xcl ho ?_;intro y47 hy47 ho v48;show zo ..;refine xcl ho ?_;intro y49 hy49 ho;show zo ..;refine run 3 ?_;refine wbr ho (fun hb50 ho=>?_) fun hb50 ho=>?_
       ·refine run 7 ?_;refine zaI (.t rfl) (fun _=>?_) (fun hq=>by cases hq);exact w ho
       ·refine run 3 ?_;refine xcl ho ?_;intro y52 hy52 ho;show zo ..;refine run 3 ?_;refine wct ho (fun hq53 ho=>?_) fun hq53 ho=>?_
        ·exact w ho
        ·refine run 3 ?_;obtain ⟨c55,hc55,ho⟩:=bnd ho;refine wcx c55 [3,11,13,14] (fun t=>(.normal,fun _=>([(106,vB (t))],[(v48,.row (zj .i64) (y47))]))) SEL ?_ fun _=>?_
         ·have ho:=hc55;refine run 4 ?_;refine wbr ho (fun hb56 ho=>?_) fun hb56 ho=>?_
          ·refine run 3 ?_;cases ho; exact zah (lf [] [0])
          ·refine run 3 ?_;cases ho; exact zah (lf [] [0])
         ·show zap ..;refine wct ho (fun hq57 ho=>?_) fun hq57 ho=>?_
          ·refine run 1 ?_;obtain ⟨c61,hc61,ho⟩:=bnd ho;refine wcx c61 [] (fun t=>(.normal,fun _=>([(8,vB (t))],[(v48,.row (zj .i64) (y47))]))) SEL ?_ fun _=>?_
           ·have ho:=hc61;refine run 4 ?_;refine wbr ho (fun hb62 ho=>?_) fun hb62 ho=>?_
            ·refine run 4 ?_;refine wbr ho (fun hb63 ho=>?_) fun hb63 ho=>?_
             ·refine xcl ho ?_;intro y64 hy64 ho;show zo ..;refine run 2 ?_;cases ho; exact zah (lf [] [0])
             ·refine run 3 ?_;cases ho; exact zah (lf [] [0])
            ·refine run 7 ?_;cases ho; exact zah (lf [] [0])
           ·show zap ..;cases ho; exact zaj (zF (.inr rfl) (.v rfl .n) (by decide))
          ·refine run 2 ?_;obtain ⟨c69,hc69,ho⟩:=bnd ho;refine wcx c69 [] (fun t=>(.normal,fun _=>([(8,vB (t))],[(v48,.row (zj .i64) (y47))]))) SEL ?_ fun _=>?_
           ·have ho:=hc69;refine run 4 ?_;refine wbr ho (fun hb70 ho=>?_) fun hb70 ho=>?_
            ·refine run 7 ?_;refine wbr ho (fun hb71 ho=>?_) fun hb71 ho=>?_
             ·refine run 8 ?_;refine wbr ho (fun hb72 ho=>?_) fun hb72 ho=>?_
              ·refine xcl ho ?_;intro y73 hy73 ho;show zo ..;refine run 2 ?_;cases ho; exact zah (lf [] [0])
              ·refine run 3 ?_;cases ho; exact zah (lf [] [0])
             ·refine run 11 ?_;cases ho; exact zah (lf [] [0])
            ·refine run 18 ?_;cases ho; exact zah (lf [] [0])
           ·show zap ..;cases ho; exact zaj (zF (.inr rfl) (.v rfl .n) (by decide))⟩
end Go.Ai.TabYtppebpagcocogaaGreat
