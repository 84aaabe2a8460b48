/- Written by program: walks through functions. -/
import Derived.Test.YtppebpagcocogaaGreatQ18
set_option linter.unusedSimpArgs false
set_option linter.unusedVariables false
set_option linter.unusedSectionVars false
namespace Go.Ai.TabYtppebpagcocogaaGreat
open Go Go.Ai Go.Ai.Sx Go.Proofs
attribute [local irreducible] zo
set_option maxRecDepth 100000
set_option maxHeartbeats 4000000
instance i100 {p_0 l_1 c_2}:FI ktab 100 (za5 p_0 l_1 c_2) [.val zaJ p_0,.val zbO l_1,.val zbo c_2] (fun out=>[.row (zj .i64) (out.1),.row (zj .i64) (out.2.1),.val zB (out.2.2)]):=⟨fun out ho=>by
 delta za5 at ho;refine fn fun _ _=>?_;refine run 5 ?_;refine zaY (zw (zj .i64)) ?_;refine zC (.n rfl) rfl rfl .nilr ?_;refine zaY (zw (zj .i64)) ?_;refine zC (.n rfl) rfl rfl .nilr ?_;refine run 14 ?_;refine xcl ho ?_;intro y1 hy1 ho;show zo ..;refine run 8 ?_;obtain ⟨c9,hc9,ho⟩:=bnd ho;refine wcx c9 [3,4,5,9,10] (fun t=>(.normal,fun _=>([(58,vB (t))],[(.nilslice,.row (zj .i64) ([])),(.nilslice,.row (zj .i64) ([]))]))) SEL ?_ fun _=>?_
 ·have ho:=hc9;refine run 4 ?_;refine wbr ho (fun hb10 ho=>?_) fun hb10 ho=>?_
  ·refine run 27 ?_;cases ho; exact zah (lf [] [0,1])
  ·refine run 1 ?_;refine xcl ho ?_;intro y11 hy11 ho;show zo ..;refine run 3 ?_;refine wbr ho (fun hb12 ho=>?_) fun hb12 ho=>?_
   ·refine run 22 ?_;cases ho; exact zah (lf [] [0,1])
   ·refine run 7 ?_;refine wbr ho (fun hb13 ho=>?_) fun hb13 ho=>?_
    ·refine run 15 ?_;cases ho; exact zah (lf [] [0,1])
    ·refine run 2 ?_;obtain ⟨x14,hx14,ho⟩:=bnd ho;refine run 5 ?_;refine wbr ho (fun hb15 ho=>?_) fun hb15 ho=>?_
     ·refine run 8 ?_;cases ho; exact zah (lf [] [0,1])
     ·refine run 4 ?_;obtain ⟨x16,hx16,ho⟩:=bnd ho;refine run 4 ?_;cases ho; exact zah (lf [] [0,1])
 ·show zap ..;refine wct ho (fun hq17 ho=>?_) fun hq17 ho=>?_
  ·refine run 2 ?_;refine zaY (zw (zj .i64)) ?_;refine zC (.n rfl) rfl rfl .nilr ?_;refine zaY (zw (zj .i64)) ?_;refine zC (.n rfl) rfl rfl .nilr ?_;refine run 2 ?_;cases ho; exact zaj (zF (.inr rfl) (.r 1 rfl rfl (.r 0 rfl rfl (.v rfl .n))) (by decide))
  ·refine run 10 ?_;obtain ⟨t68,ht68,ho⟩:=bnd ho;refine wlp ht68 [3,4,5,9,10,60,61] (fun s g=>([(62,vI (s))],[])) (zfF (fun b=>(.exit 0,fun g=>([],[]))) (fun b=>(.ret,fun g=>([(6,.raw ((gh g 0))),(7,.raw ((gh g 1))),(8,vB (b.2.2))],[((gh g 0),.row (zj .i64) (b.1)),((gh g 1),.row (zj .i64) (b.2.1))])))) [] SEL (pk []) NE (fun s42 g43 _ ho=>?_) fun g69=>?_
   ·refine run 5 ?_;refine wct ho (fun hq44 ho=>?_) fun hq44 ho=>?_
    ·refine run 6 ?_;obtain ⟨x45,hx45,ho⟩:=bnd ho;refine run 9 ?_;refine xcl ho ?_;intro y55 hy55 ho;show zo ..;refine run 2 ?_;refine wbr ho (fun hb56 ho=>?_) fun hb56 ho=>?_
     ·refine run 23 ?_;refine zaI (.t rfl) (fun _=>?_) (fun hq=>by cases hq);refine run 2 ?_;refine zaY (zw (zj .i64)) ?_;refine zC (.n rfl) rfl rfl .nilr ?_;refine zaY (zw (zj .i64)) ?_;refine zC (.n rfl) rfl rfl .nilr ?_;refine run 2 ?_;cases ho; exact zaj (lf [.nilslice,.nilslice] [1,0])
     ·refine run 3 ?_;refine wbr ho (fun hb58 ho=>?_) fun hb58 ho=>?_
      ·refine run 5 ?_;obtain ⟨x59,hx59,ho⟩:=bnd ho;refine run 6 ?_;refine wbr ho (fun hb60 ho=>?_) fun hb60 ho=>?_
       ·refine run 9 ?_;refine zaI (.t rfl) (fun _=>?_) (fun hq=>by cases hq);refine run 2 ?_;refine zaY (zw (zj .i64)) ?_;refine zC (.n rfl) rfl rfl .nilr ?_;refine zaY (zw (zj .i64)) ?_;refine zC (.n rfl) rfl rfl .nilr ?_;refine run 2 ?_;cases ho; exact zaj (lf [.nilslice,.nilslice] [1,0])
       ·refine run 3 ?_;obtain ⟨x62,hx62,ho⟩:=bnd ho;refine run 2 ?_;refine xcl ho ?_;intro y63 hy63 ho;show zo ..;refine run 3 ?_;refine wct ho (fun hq64 ho=>?_) fun hq64 ho=>?_
        ·refine run 2 ?_;refine zaY (zw (zj .i64)) ?_;refine zC (.n rfl) rfl rfl .nilr ?_;refine zaY (zw (zj .i64)) ?_;refine zC (.n rfl) rfl rfl .nilr ?_;refine run 2 ?_;cases ho; exact zaj (lf [.nilslice,.nilslice] [1,0])
        ·exact w ho
      ·refine run 14 ?_;obtain ⟨x65,hx65,ho⟩:=bnd ho;refine run 2 ?_;refine xcl ho ?_;intro y66 hy66 ho;show zo ..;refine run 3 ?_;refine wct ho (fun hq67 ho=>?_) fun hq67 ho=>?_
       ·refine run 2 ?_;refine zaY (zw (zj .i64)) ?_;refine zC (.n rfl) rfl rfl .nilr ?_;refine zaY (zw (zj .i64)) ?_;refine zC (.n rfl) rfl rfl .nilr ?_;refine run 2 ?_;cases ho; exact zaj (lf [.nilslice,.nilslice] [1,0])
       ·exact w ho
    ·cases ho; exact zas (lf [] [])
   ·rcases t68 with b70 | b71
    ·have ho:=zck ho;show zap ..;refine run 11 ?_;refine xcl ho ?_;intro y72 hy72 ho v73;show zo ..;refine run 8 ?_;obtain ⟨c75,hc75,ho⟩:=bnd ho;refine wcx c75 [5,9,14] (fun t=>(.normal,fun _=>([(116,vB (t))],[(v73,.row (zj .i64) (y72.1))]))) SEL ?_ fun _=>?_
     ·have ho:=hc75;refine run 4 ?_;refine wbr ho (fun hb76 ho=>?_) fun hb76 ho=>?_
      ·refine run 6 ?_;cases ho; exact zah (lf [] [0])
      ·refine run 6 ?_;cases ho; exact zah (lf [] [0])
     ·show zap ..;refine wct ho (fun hq77 ho=>?_) fun hq77 ho=>?_
      ·refine run 2 ?_;refine zaY (zw (zj .i64)) ?_;refine zC (.n rfl) rfl rfl .nilr ?_;refine zaY (zw (zj .i64)) ?_;refine zC (.n rfl) rfl rfl .nilr ?_;refine run 2 ?_;cases ho; exact zaj (zF (.inr rfl) (.r 1 rfl rfl (.r 0 rfl rfl (.v rfl .n))) (by decide))
      ·refine run 4 ?_;obtain ⟨x78,hx78,ho⟩:=bnd ho;refine xmk fun v79=>?_;refine run 1 ?_;obtain ⟨x80,hx80,ho⟩:=bnd ho;refine xmk fun v81=>?_;refine run 11 ?_;obtain ⟨t120,ht120,ho⟩:=bnd ho;refine wlp ht120 [5,9,15,16,121,122] (fun s g=>([(123,vI (s.1))],[(v81,.row (zj .i64) (s.2.1)),(v79,.row (zj .i64) (s.2.2)),(v73,.row (zj .i64) (y72.1))])) (fun b=>(.exit 2,fun g=>([],[(v81,.row (zj .i64) (b.1)),(v79,.row (zj .i64) (b.2))]))) [] SEL (pk [0,1,2]) NE (fun s106 g107 _ ho=>?_) fun g121=>?_
       ·refine run 5 ?_;refine wct ho (fun hq108 ho=>?_) fun hq108 ho=>?_
        ·refine run 6 ?_;obtain ⟨x109,hx109,ho⟩:=bnd ho;refine run 12 ?_;obtain ⟨x110,hx110,ho⟩:=bnd ho;refine run 2 ?_;obtain ⟨x111,hx111,ho⟩:=bnd ho;refine run 3 ?_;refine za9 [6,11] (by kernel_rfl) ?_;refine run 5 ?_;obtain ⟨x116,hx116,ho⟩:=bnd ho;refine run 5 ?_;obtain ⟨x117,hx117,ho⟩:=bnd ho;refine run 7 ?_;obtain ⟨x118,hx118,ho⟩:=bnd ho;refine run 3 ?_;obtain ⟨x119,hx119,ho⟩:=bnd ho;refine run 6 ?_;cases ho; exact zah (lf [] [0,1,2])
        ·cases ho; exact zas (lf [] [0,1])
       ·show zap ..;refine run 1 ?_;refine za9 [6] (by kernel_rfl) ?_;refine run 5 ?_;obtain ⟨x123,hx123,ho⟩:=bnd ho;refine run 7 ?_;cases ho; exact zaj (zF (.inr rfl) (.r 1 rfl rfl (.r 0 rfl rfl (.v rfl .n))) (by decide))
    ·have ho:=zcl ho;cases ho; exact id (zF (.inr rfl) (.r 0 rfl rfl (.r 1 rfl rfl (.v rfl .n))) (by decide))⟩
instance i54 {p_0 l_1}:FI ktab 54 (zbq p_0 l_1) [.val zaJ p_0,.val zbO l_1] (fun out=>[.val (ze0 zn) (out.1),.val zB (out.2)]):=⟨fun out ho=>by
 delta zbq at ho;refine fn fun _ _=>?_;refine run 4 ?_;refine zaq rfl (.n rfl) rfl (e:=.val (ze0 zn) none) (fun z fr h s=>⟨_,rfl,zcG⟩) ?_;refine run 4 ?_;obtain ⟨c4,hc4,ho⟩:=bnd ho;refine wcx c4 [2,3] (fun t=>(.normal,fun _=>([(18,vB (t))],[]))) SEL ?_ fun _=>?_
 ·exact w hc4
 ·show zap ..;refine wct ho (fun hq8 ho=>?_) fun hq8 ho=>?_
  ·refine run 2 ?_;refine zaq rfl (.n rfl) rfl (e:=.val (ze0 zn) none) (fun z fr h s=>⟨_,rfl,zcG⟩) ?_;exact w ho
  ·refine run 4 ?_;refine zlc (R:=zn) zB4 (.n rfl) rfl rfl rfl (.p (.t rfl) rfl (.z (fun _=>(zyr znil rfl rfl)) (.z (fun _=>(zyr znil rfl rfl)) (.n rfl)))) ?_;refine xbo fun b9=>?_;refine run 6 ?_;refine xcl ho ?_;intro y10 hy10 ho;show zo ..;refine run 3 ?_;obtain ⟨t55,ht55,ho⟩:=bnd ho;refine wlp ht55 [2,3,6,23] (fun s g=>([(24,vI (s.1))],[(.ptr b9 0,.box [.val (zg zy) (l_1.1.1),.val (zg (zj .i64)) (l_1.1.2.1),.val (zg (zj .i64)) (l_1.1.2.2.1),.val (zg zy) (l_1.2.1.1),.val (zg (zj .i64)) (l_1.2.1.2.1),.val (zg (zj .i64)) (l_1.2.1.2.2.1),vI (l_1.2.2.1.1),vI (l_1.2.2.1.2.1),vI (l_1.2.2.1.2.2.1),vI (l_1.2.2.1.2.2.2.1),vI (l_1.2.2.1.2.2.2.2.1),vI (l_1.2.2.1.2.2.2.2.2.1),vI (l_1.2.2.1.2.2.2.2.2.2.1),vI (l_1.2.2.1.2.2.2.2.2.2.2.1),vI (l_1.2.2.1.2.2.2.2.2.2.2.2.1),.val (zg (zj .i64)) (l_1.2.2.1.2.2.2.2.2.2.2.2.2.1),vI (l_1.2.2.2.1),vI (l_1.2.2.2.2.1),.val (zg (zj .i64)) (s.2.1),.val (zg (zj .i64)) (s.2.2.1),.val (zg (zj .i64)) (s.2.2.2.1),.val (zg (zj .i64)) (s.2.2.2.2)])])) (zfF (fun b=>(.exit 0,fun g=>([],[(.ptr b9 0,.box [.val (zg zy) (l_1.1.1),.val (zg (zj .i64)) (l_1.1.2.1),.val (zg (zj .i64)) (l_1.1.2.2.1),.val (zg zy) (l_1.2.1.1),.val (zg (zj .i64)) (l_1.2.1.2.1),.val (zg (zj .i64)) (l_1.2.1.2.2.1),vI (l_1.2.2.1.1),vI (l_1.2.2.1.2.1),vI (l_1.2.2.1.2.2.1),vI (l_1.2.2.1.2.2.2.1),vI (l_1.2.2.1.2.2.2.2.1),vI (l_1.2.2.1.2.2.2.2.2.1),vI (l_1.2.2.1.2.2.2.2.2.2.1),vI (l_1.2.2.1.2.2.2.2.2.2.2.1),vI (l_1.2.2.1.2.2.2.2.2.2.2.2.1),.val (zg (zj .i64)) (l_1.2.2.1.2.2.2.2.2.2.2.2.2.1),vI (l_1.2.2.2.1),vI (l_1.2.2.2.2.1),.val (zg (zj .i64)) (b.1),.val (zg (zj .i64)) (b.2.1),.val (zg (zj .i64)) (b.2.2.1),.val (zg (zj .i64)) (b.2.2.2)])]))) (fun b=>(.ret,fun g=>([(4,.val (ze0 zn) (b.1)),(5,vB (b.2.1))],[])))) [] SEL (pk [0]) NE (fun s39 g40 _ ho=>?_) fun g56=>?_
   ·refine run 5 ?_;refine wct ho (fun hq41 ho=>?_) fun hq41 ho=>?_
    ·refine run 6 ?_;obtain ⟨x42,hx42,ho⟩:=bnd ho;refine run 1 ?_;refine xal (zv:=.agg [.nilslice,.nilslice,.nilslice]) (es:=[.val (zg zy) ([]),.val (zg (zj .i64)) ([]),.val (zg (zj .i64)) ([])]) (by kernel_rfl) fun b43=>?_;refine run 2 ?_;refine zaY (zx (R:=zbo) (a:=x42) 0 [8] (za (zb rfl) (za (zb rfl) (za (zb rfl) zd rfl) rfl) rfl) rfl rfl ⟨rfl,trivial⟩) ?_;refine run 14 ?_;refine xcl ho ?_;intro y49 hy49 ho v50 v51;show zo ..;refine run 6 ?_;obtain ⟨x52,hx52,ho⟩:=bnd ho;refine zrm zru rfl hx52 (.n rfl) rfl rfl (.t rfl) (.t rfl) ?_;refine zaY (zi7 0 [37] rfl rfl ⟨rfl,trivial⟩) ?_;refine zmA (es':=[.val (zg zy) (l_1.1.1),.val (zg (zj .i64)) (l_1.1.2.1),.val (zg (zj .i64)) (l_1.1.2.2.1),.val (zg zy) (l_1.2.1.1),.val (zg (zj .i64)) (l_1.2.1.2.1),.val (zg (zj .i64)) (l_1.2.1.2.2.1),vI (l_1.2.2.1.1),vI (l_1.2.2.1.2.1),vI (l_1.2.2.1.2.2.1),vI (l_1.2.2.1.2.2.2.1),vI (l_1.2.2.1.2.2.2.2.1),vI (l_1.2.2.1.2.2.2.2.2.1),vI (l_1.2.2.1.2.2.2.2.2.2.1),vI (l_1.2.2.1.2.2.2.2.2.2.2.1),vI (l_1.2.2.1.2.2.2.2.2.2.2.2.1),.val (zg (zj .i64)) (l_1.2.2.1.2.2.2.2.2.2.2.2.2.1),vI (l_1.2.2.2.1),vI (l_1.2.2.2.2.1),.val (zg (zj .i64)) (cond (s39.1==0) y49.1 s39.2.1),.val (zg (zj .i64)) (cond (s39.1==1) y49.1 s39.2.2.1),.val (zg (zj .i64)) (s39.2.2.2.1),.val (zg (zj .i64)) (s39.2.2.2.2)]) 1 (U27).sz rfl (zuJ hx52 (by exact Nat.le_of_ble_eq_true rfl)) (by rcases ix2 hx52 with e_ | e_<;>rw [e_]<;>rfl) (.n rfl) rfl rfl (.t rfl) (.t rfl) rfl rfl ?_;refine run 2 ?_;obtain ⟨x53,hx53,ho⟩:=bnd ho;refine zrm zru rfl hx53 (.n rfl) rfl rfl (.t rfl) (.t rfl) ?_
     refine zaY (zi7 0 [38] rfl rfl ⟨rfl,trivial⟩) ?_;refine zmA (es':=[.val (zg zy) (l_1.1.1),.val (zg (zj .i64)) (l_1.1.2.1),.val (zg (zj .i64)) (l_1.1.2.2.1),.val (zg zy) (l_1.2.1.1),.val (zg (zj .i64)) (l_1.2.1.2.1),.val (zg (zj .i64)) (l_1.2.1.2.2.1),vI (l_1.2.2.1.1),vI (l_1.2.2.1.2.1),vI (l_1.2.2.1.2.2.1),vI (l_1.2.2.1.2.2.2.1),vI (l_1.2.2.1.2.2.2.2.1),vI (l_1.2.2.1.2.2.2.2.2.1),vI (l_1.2.2.1.2.2.2.2.2.2.1),vI (l_1.2.2.1.2.2.2.2.2.2.2.1),vI (l_1.2.2.1.2.2.2.2.2.2.2.2.1),.val (zg (zj .i64)) (l_1.2.2.1.2.2.2.2.2.2.2.2.2.1),vI (l_1.2.2.2.1),vI (l_1.2.2.2.2.1),.val (zg (zj .i64)) (cond (s39.1==0) y49.1 s39.2.1),.val (zg (zj .i64)) (cond (s39.1==1) y49.1 s39.2.2.1),.val (zg (zj .i64)) (cond (s39.1==0) y49.2.1 s39.2.2.2.1),.val (zg (zj .i64)) (cond (s39.1==1) y49.2.1 s39.2.2.2.2)]) 0 (U27).sz rfl (zuJ hx53 (by exact Nat.le_of_ble_eq_true rfl)) (by rcases ix2 hx53 with e_ | e_<;>rw [e_]<;>rfl) (.n rfl) rfl rfl (.t rfl) (.t rfl) rfl rfl ?_;refine run 7 ?_;refine wct ho (fun hq54 ho=>?_) fun hq54 ho=>?_
     ·refine run 2 ?_;refine zaq rfl (.n rfl) rfl (e:=.val (ze0 zn) none) (fun z fr h s=>⟨_,rfl,zcG⟩) ?_;exact w ho
     ·refine run 4 ?_;cases ho; exact zah (lf [] [0])
    ·cases ho; exact zas (lf [] [0])
   ·rcases t55 with b57 | b58
    ·have ho:=zck ho;show zap ..;refine run 6 ?_;cases ho;refine zoa (zx (R:=zn) (a:=(((l_1.1.1,l_1.1.2.1,l_1.1.2.2.1,()),(l_1.2.1.1,l_1.2.1.2.1,l_1.2.1.2.2.1,()),(l_1.2.2.1.1,l_1.2.2.1.2.1,l_1.2.2.1.2.2.1,l_1.2.2.1.2.2.2.1,l_1.2.2.1.2.2.2.2.1,l_1.2.2.1.2.2.2.2.2.1,l_1.2.2.1.2.2.2.2.2.2.1,l_1.2.2.1.2.2.2.2.2.2.2.1,l_1.2.2.1.2.2.2.2.2.2.2.2.1,l_1.2.2.1.2.2.2.2.2.2.2.2.2.1,()),l_1.2.2.2.1,l_1.2.2.2.2.1,()),[b57.1,b57.2.1],[b57.2.2.1,b57.2.2.2],())) 0 [6,49,4] (za (za (za (zb rfl) (za (zb rfl) (za (zb rfl) zd rfl) rfl) rfl) (za (za (zb rfl) (za (zb rfl) (za (zb rfl) zd rfl) rfl) rfl) (za (za (zb rfl) (za (zb rfl) (za (zb rfl) (za (zb rfl) (za (zb rfl) (za (zb rfl) (za (zb rfl) (za (zb rfl) (za (zb rfl) (za (zb rfl) zd rfl) rfl) rfl) rfl) rfl) rfl) rfl) rfl) rfl) rfl) (za (zb rfl) (za (zb rfl) zd rfl) rfl) rfl) rfl) rfl) (za (zhR rfl) (za (zhR rfl) zd rfl) rfl) rfl) rfl rfl ⟨rfl,rfl,rfl,trivial⟩) ?_;refine zoa (zlk (n:=4) rfl) ?_;exact zaj (zF (.inr rfl) (.v rfl (.v rfl .n)) (by decide))
    ·have ho:=zcl ho;cases ho; exact id (zF (.inr rfl) (.v rfl (.v rfl .n)) (by decide))⟩
instance i55 {home_0}:FI ktab 55 (zd2 home_0) [vB home_0] (fun out=>[.val (zj .i64) (out)]):=⟨fun out ho=>by
 delta zd2 at ho;refine fn fun _ _=>?_;exact w ho⟩
instance i18 {p_0 l_1 home_2}:FI ktab 18 (zaA p_0 l_1 home_2) [.val zaJ p_0,.val zbO l_1,vB home_2] (fun out=>[.val (zg (zj .i64)) (out.1),.val (zj .i64) (out.2)]):=⟨fun out ho=>by
 delta zaA at ho;refine fn fun _ _=>?_;refine run 4 ?_;refine zC (.n rfl) rfl rfl (.nil (R:=(zj .i64))) ?_;refine run 6 ?_;refine xcl ho ?_;intro y1 hy1 ho;show zo ..;refine run 12 ?_;refine wct ho (fun hq2 ho=>?_) fun hq2 ho=>?_
 ·refine run 2 ?_;refine zC (.n rfl) rfl rfl (.nil (R:=(zj .i64))) ?_;exact w ho
 ·refine run 5 ?_;refine xcl ho ?_;intro y6 hy6 ho;show zo ..;obtain ⟨p7,hp7,ho⟩:=bnd ho;refine zaY (zcu (n:=18) hp7 rfl) ?_;refine run 2 ?_;obtain ⟨x8,hx8,ho⟩:=bnd ho;refine zci zru hx8 (.n rfl) rfl rfl (.t rfl) (.t rfl) ?_;exact w ho⟩
instance i81 {r_0 side_1}:FI ktab 81 (zao r_0 side_1) [.val (zad zn) r_0,vI side_1] (fun out=>[.val (zj .i64) (out)]):=⟨fun out ho=>by
 delta zao at ho;refine fn fun _ _=>?_;refine run 10 ?_;obtain ⟨x4,hx4,ho⟩:=bnd ho;refine zci zru hx4 (.n rfl) rfl rfl (.t rfl) (.t rfl) ?_;refine run 5 ?_;obtain ⟨x5,hx5,ho⟩:=bnd ho;refine zci zru hx5 (.n rfl) rfl rfl (.t rfl) (.t rfl) ?_;exact w ho⟩
instance i56 {r_0}:FI ktab 56 (zaR r_0) [.val (zad zn) r_0] (fun out=>[.val (zj .i64) (out)]):=⟨fun out ho=>by
 delta zaR at ho;refine fn fun _ _=>?_;exact w ho⟩
instance i19 {p_0 l_1}:FI ktab 19 (zbR p_0 l_1) [.val zaJ p_0,.val zbO l_1] (fun out=>[.val (zj .i64) (out.1),.val (zj .i64) (out.2)]):=⟨fun out ho=>by
 delta zbR at ho;refine fn fun _ _=>?_;refine run 11 ?_;refine xcl ho ?_;intro y1 hy1 ho;show zo ..;refine run 12 ?_;refine wct ho (fun hq2 ho=>?_) fun hq2 ho=>?_
 ·exact w ho
 ·refine run 4 ?_;obtain ⟨p3,hp3,ho⟩:=bnd ho;refine zaY (zcu (n:=16) hp3 rfl) ?_;exact w ho⟩
instance i58 {r_0 headway_1}:FI ktab 58 (zbj r_0 headway_1) [.val (zad zn) r_0,vI headway_1] (fun out=>[.val (zj .i64) (out)]):=⟨fun out ho=>by
 delta zbj at ho;refine fn fun _ _=>?_;exact w ho⟩
instance i20 {p_0 l_1 headway_2}:FI ktab 20 (za2 p_0 l_1 headway_2) [.val zaJ p_0,.val zbO l_1,vI headway_2] (fun out=>[.val (zj .i64) (out.1),.val (zj .i64) (out.2)]):=⟨fun out ho=>by
 delta za2 at ho;refine fn fun _ _=>?_;refine run 11 ?_;refine xcl ho ?_;intro y1 hy1 ho;show zo ..;refine run 8 ?_;obtain ⟨c4,hc4,ho⟩:=bnd ho;refine wcx c4 [2,8] (fun t=>(.normal,fun _=>([(22,vB (t))],[]))) SEL ?_ fun _=>?_
 ·exact w hc4
 ·show zap ..;refine wct ho (fun hq7 ho=>?_) fun hq7 ho=>?_
  ·exact w ho
  ·refine run 5 ?_;obtain ⟨p8,hp8,ho⟩:=bnd ho;refine zaY (zcu (n:=23) hp8 rfl) ?_;exact w ho⟩
instance i45 {length_0}:FI ktab 45 (zc9 length_0) [vI length_0] (fun out=>[.val zaJ (out.1),.val zbO (out.2)]):=⟨fun out ho=>by
 delta zc9 at ho;refine fn fun _ _=>?_;refine run 2 ?_;refine xal (zv:=.agg [.nilslice,.nilslice]) (es:=[.val (zg zax) ([]),.val (zg zbJ) ([])]) (by kernel_rfl) fun b1=>?_;refine xal (zv:=.agg [.nilslice,.nilslice,.nilslice,.nilslice,.nilslice,.nilslice,.int .i64 0,.int .i64 0,.int .i64 0,.int .i64 0,.int .i64 0,.int .i64 0,.int .i64 0,.int .i64 0,.int .i64 0,.nilslice,.int .i64 0,.int .i64 0]) (es:=[.val (zg zy) ([]),.val (zg (zj .i64)) ([]),.val (zg (zj .i64)) ([]),.val (zg zy) ([]),.val (zg (zj .i64)) ([]),.val (zg (zj .i64)) ([]),vI (0),vI (0),vI (0),vI (0),vI (0),vI (0),vI (0),vI (0),vI (0),.val (zg (zj .i64)) ([]),vI (0),vI (0)]) (by kernel_rfl) fun b2=>?_;refine run 15 ?_;refine xal (zv:=.agg [.nilslice,.nilslice]) (es:=[.val (zg zax) ([]),.val (zg zbJ) ([])]) (by kernel_rfl) fun b3=>?_;refine run 1 ?_;refine zaY (zx (R:=zaJ) (a:=(([(((0,0,()),1,[((0,false,()):zq)],0,()):zbT),((((length_0,0,()):Spot),1,[((0,true,()):zq)],0,()):zbT)],[((0,1,[],8000,0,()):Rail)],()):Plan)) 0 [4] (za (zb rfl) (za (zb rfl) zd rfl) rfl) rfl rfl ⟨rfl,trivial⟩) ?_;refine run 5 ?_;refine xal (zv:=.agg [.int .i64 0,.int .i64 0,.int .i64 0,.int .i64 0,.int .i64 0,.int .i64 0,.int .i64 0,.int .i64 0,.int .i64 0,.nilslice]) (es:=[vI (0),vI (0),vI (0),vI (0),vI (0),vI (0),vI (0),vI (0),vI (0),.val (zg (zj .i64)) ([])]) (by kernel_rfl) fun b4=>?_;refine run 1 ?_;refine zaY (zx (R:=zaB) (a:=((1000,1000,8000,2000,2000,1000000,0,0,0,[1000],()):Train)) 0 [5] (za (zb rfl) (za (zb rfl) (za (zb rfl) (za (zb rfl) (za (zb rfl) (za (zb rfl) (za (zb rfl) (za (zb rfl) (za (zb rfl) (za (zb rfl) zd rfl) rfl) rfl) rfl) rfl) rfl) rfl) rfl) rfl) rfl) rfl rfl ⟨rfl,trivial⟩) ?_
 refine run 6 ?_;obtain ⟨x5,hx5,ho⟩:=bnd ho;refine run 5 ?_;refine xal (zv:=.agg [.nilslice,.nilslice,.nilslice]) (es:=[.val (zg zy) ([]),.val (zg (zj .i64)) ([]),.val (zg (zj .i64)) ([])]) (by kernel_rfl) fun b6=>?_;refine run 1 ?_;refine zaY (zx (R:=zbo) (a:=(([((0,false,()):zR)],[1000,x5,length_0],[0,20,0],()):Course)) 0 [6] (za (zb rfl) (za (zb rfl) (za (zb rfl) zd rfl) rfl) rfl) rfl rfl ⟨rfl,trivial⟩) ?_;refine run 6 ?_;obtain ⟨x7,hx7,ho⟩:=bnd ho;refine run 5 ?_;refine xal (zv:=.agg [.nilslice,.nilslice,.nilslice]) (es:=[.val (zg zy) ([]),.val (zg (zj .i64)) ([]),.val (zg (zj .i64)) ([])]) (by kernel_rfl) fun b8=>?_;refine run 1 ?_;refine zaY (zx (R:=zbo) (a:=(([((0,true,()):zR)],[1000,x7,length_0],[0,10,0],()):Course)) 0 [7] (za (zb rfl) (za (zb rfl) (za (zb rfl) zd rfl) rfl) rfl) rfl rfl ⟨rfl,trivial⟩) ?_;refine run 11 ?_;cases ho; exact zaj (zF (.inr rfl) (.b 1 U25 (za (zb rfl) (za (zb rfl) zd rfl) rfl) rfl rfl (.b 0 U33 (za (za (zb rfl) (za (zb rfl) (za (zb rfl) zd rfl) rfl) rfl) (za (za (zb rfl) (za (zb rfl) (za (zb rfl) zd rfl) rfl) rfl) (za (za (zb rfl) (za (zb rfl) (za (zb rfl) (za (zb rfl) (za (zb rfl) (za (zb rfl) (za (zb rfl) (za (zb rfl) (za (zb rfl) (za (zb rfl) zd rfl) rfl) rfl) rfl) rfl) rfl) rfl) rfl) rfl) rfl) (za (zb rfl) (za (zb rfl) zd rfl) rfl) rfl) rfl) rfl) rfl rfl .n)) (by decide))⟩
instance i17:FI ktab 17 (zaF) [] (fun out=>[.val zB (out)]):=⟨fun out ho=>by
 delta zaF at ho;refine fn fun _ _=>?_;refine run 6 ?_;refine xcl ho ?_;intro y1 hy1 ho;show zo ..;refine run 3 ?_;refine xal (zv:=.agg [.nilslice,.nilslice]) (es:=[.val (zg zax) ([]),.val (zg zbJ) ([])]) (by kernel_rfl) fun b2=>?_;refine xal (zv:=.agg [.nilslice,.nilslice,.nilslice,.nilslice,.nilslice,.nilslice,.int .i64 0,.int .i64 0,.int .i64 0,.int .i64 0,.int .i64 0,.int .i64 0,.int .i64 0,.int .i64 0,.int .i64 0,.nilslice,.int .i64 0,.int .i64 0]) (es:=[.val (zg zy) ([]),.val (zg (zj .i64)) ([]),.val (zg (zj .i64)) ([]),.val (zg zy) ([]),.val (zg (zj .i64)) ([]),.val (zg (zj .i64)) ([]),vI (0),vI (0),vI (0),vI (0),vI (0),vI (0),vI (0),vI (0),vI (0),.val (zg (zj .i64)) ([]),vI (0),vI (0)]) (by kernel_rfl) fun b3=>?_;refine run 1 ?_;refine zaY (zx (R:=zaJ) (a:=y1.1) 1 [1] (za (zb rfl) (za (zb rfl) zd rfl) rfl) rfl rfl ⟨rfl,trivial⟩) ?_;refine run 1 ?_;refine zaY (zx (R:=zbO) (a:=y1.2) 0 [2] (za (za (zb rfl) (za (zb rfl) (za (zb rfl) zd rfl) rfl) rfl) (za (za (zb rfl) (za (zb rfl) (za (zb rfl) zd rfl) rfl) rfl) (za (za (zb rfl) (za (zb rfl) (za (zb rfl) (za (zb rfl) (za (zb rfl) (za (zb rfl) (za (zb rfl) (za (zb rfl) (za (zb rfl) (za (zb rfl) zd rfl) rfl) rfl) rfl) rfl) rfl) rfl) rfl) rfl) rfl) (za (zb rfl) (za (zb rfl) zd rfl) rfl) rfl) rfl) rfl) rfl rfl ⟨rfl,trivial⟩) ?_;refine run 12 ?_;refine xcl ho ?_;intro y4 hy4 ho v5;show zo ..;refine run 10 ?_;refine xcl ho ?_;intro y6 hy6 ho;show zo ..;refine run 10 ?_;refine xcl ho ?_;intro y7 hy7 ho;show zo ..;refine run 10 ?_;refine xcl ho ?_
 intro y8 hy8 ho;show zo ..;refine run 8 ?_;obtain ⟨c15,hc15,ho⟩:=bnd ho;refine wcx c15 [1,2,3,5,7,9] (fun t=>(.normal,fun _=>([(80,vB (t))],[(v5,.row (zj .i64) (y4.1))]))) SEL ?_ fun _=>?_
 ·have ho:=hc15;refine run 4 ?_;refine wbr ho (fun hb16 ho=>?_) fun hb16 ho=>?_
  ·refine run 26 ?_;cases ho; exact zah (lf [] [0])
  ·refine run 4 ?_;refine wbr ho (fun hb17 ho=>?_) fun hb17 ho=>?_
   ·refine run 22 ?_;cases ho; exact zah (lf [] [0])
   ·refine run 4 ?_;refine wbr ho (fun hb18 ho=>?_) fun hb18 ho=>?_
    ·refine run 18 ?_;cases ho; exact zah (lf [] [0])
    ·refine run 4 ?_;refine wbr ho (fun hb19 ho=>?_) fun hb19 ho=>?_
     ·refine run 14 ?_;cases ho; exact zah (lf [] [0])
     ·refine run 5 ?_;refine wbr ho (fun hb20 ho=>?_) fun hb20 ho=>?_
      ·refine run 9 ?_;cases ho; exact zah (lf [] [0])
      ·refine run 5 ?_;refine wbr ho (fun hb21 ho=>?_) fun hb21 ho=>?_
       ·refine run 4 ?_;cases ho; exact zah (lf [] [0])
       ·refine run 4 ?_;cases ho; exact zah (lf [] [0])
 ·show zap ..;refine wct ho (fun hq22 ho=>?_) fun hq22 ho=>?_
  ·exact w ho
  ·refine run 2 ?_;refine za9 [2,7] (by kernel_rfl) ?_;refine run 1 ?_;obtain ⟨x27,hx27,ho⟩:=bnd ho;refine run 3 ?_;obtain ⟨x28,hx28,ho⟩:=bnd ho;refine run 2 ?_;obtain ⟨x29,hx29,ho⟩:=bnd ho;refine run 3 ?_;obtain ⟨x30,hx30,ho⟩:=bnd ho;refine run 9 ?_;refine xcl ho ?_;intro y31 hy31 ho;show zo ..;refine run 12 ?_;refine xcl ho ?_;intro y32 hy32 ho;show zo ..;refine run 7 ?_;obtain ⟨c57,hc57,ho⟩:=bnd ho;refine wcx c57 [] (fun t=>(.normal,fun _=>([(0,vB (t))],[(v5,.row (zj .i64) (y4.1))]))) SEL ?_ fun _=>?_
   ·have ho:=hc57;refine run 2 ?_;obtain ⟨x58,hx58,ho⟩:=bnd ho;refine run 4 ?_;refine wbr ho (fun hb59 ho=>?_) fun hb59 ho=>?_
    ·refine run 1 ?_;obtain ⟨x60,hx60,ho⟩:=bnd ho;refine run 7 ?_;refine wbr ho (fun hb61 ho=>?_) fun hb61 ho=>?_
     ·refine run 1 ?_;obtain ⟨x62,hx62,ho⟩:=bnd ho;refine run 9 ?_;refine wbr ho (fun hb63 ho=>?_) fun hb63 ho=>?_
      ·refine run 2 ?_;obtain ⟨x64,hx64,ho⟩:=bnd ho;refine run 3 ?_;obtain ⟨x65,hx65,ho⟩:=bnd ho;refine run 7 ?_;refine wbr ho (fun hb66 ho=>?_) fun hb66 ho=>?_
       ·refine run 4 ?_;refine wbr ho (fun hb67 ho=>?_) fun hb67 ho=>?_
        ·refine run 4 ?_;refine wbr ho (fun hb68 ho=>?_) fun hb68 ho=>?_
         ·refine run 4 ?_;refine wbr ho (fun hb69 ho=>?_) fun hb69 ho=>?_
          ·refine run 4 ?_;cases ho; exact zah (lf [] [0])
          ·refine run 4 ?_;cases ho; exact zah (lf [] [0])
         ·refine run 8 ?_;cases ho; exact zah (lf [] [0])
        ·refine run 12 ?_;cases ho; exact zah (lf [] [0])
       ·refine run 16 ?_;cases ho; exact zah (lf [] [0])
      ·refine run 28 ?_;cases ho; exact zah (lf [] [0])
     ·refine run 38 ?_;cases ho; exact zah (lf [] [0])
    ·refine run 46 ?_;cases ho; exact zah (lf [] [0])
   ·show zap ..;cases ho; exact zaj (zF (.inr rfl) (.v rfl .n) (by decide))⟩
end Go.Ai.TabYtppebpagcocogaaGreat
