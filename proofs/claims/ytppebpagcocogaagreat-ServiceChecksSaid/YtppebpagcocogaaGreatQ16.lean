/- Written by program: walks through functions. -/
import Derived.Test.YtppebpagcocogaaGreatQ11
set_option linter.unusedSimpArgs false
set_option linter.unusedVariables false
set_option linter.unusedSectionVars false
namespace Go.Ai.TabYtppebpagcocogaaGreat
open Go Go.Ai Go.Ai.Sx Go.Proofs
attribute [local irreducible] zo
set_option maxRecDepth 100000
set_option maxHeartbeats 4000000
instance i57 {x_0 low_1 high_2}:FI ktab 57 (zae x_0 low_1 high_2) [vI x_0,vI low_1,vI high_2] (fun out=>[.val zB (out)]):=⟨fun out ho=>by
 delta zae at ho;refine fn fun _ _=>?_;refine run 5 ?_;obtain ⟨c2,hc2,ho⟩:=bnd ho;refine wcx c2 [] (fun t=>(.normal,fun _=>([(6,vB (t))],[]))) SEL ?_ fun _=>?_
 ·exact w hc2
 ·show zap ..;cases ho; exact zaj (zF (.inr rfl) (.v rfl .n) (by decide))⟩
instance i123 {x_0 low_1 high_2}:FI ktab 123 (zU x_0 low_1 high_2) [vI x_0,vI low_1,vI high_2] (fun out=>[.val zB (out)]):=⟨fun out ho=>by
 delta zU at ho;refine fn fun _ _=>?_;refine run 5 ?_;obtain ⟨c2,hc2,ho⟩:=bnd ho;refine wcx c2 [] (fun t=>(.normal,fun _=>([(6,vB (t))],[]))) SEL ?_ fun _=>?_
 ·exact w hc2
 ·show zap ..;cases ho; exact zaj (zF (.inr rfl) (.v rfl .n) (by decide))⟩
instance i147 {s_0 f_1}:FI ktab 147 (zat s_0 f_1) [.val (zg zax) s_0,.val (rFn ktab (zbT) (Bool) (fun x=>[.val zax (x)]) (fun y=>[.val zB (y)])) f_1] (fun out=>[.val (zj .i64) (out)]):=⟨fun out ho=>by
 delta zat at ho;refine fn fun _ _=>?_;refine run 12 ?_;obtain ⟨t11,ht11,ho⟩:=bnd ho;refine wlp ht11 [0,1,7] (fun s g=>([(8,vI (s))],[])) (zfF (fun b=>(.exit 0,fun g=>([],[]))) (fun b=>(.ret,fun g=>([(4,vI (b))],[])))) [] SEL (pk []) NE (fun s5 g6 _ ho=>?_) fun g12=>?_
 ·refine run 5 ?_;refine wct ho (fun hq7 ho=>?_) fun hq7 ho=>?_
  ·refine run 13 ?_;obtain ⟨x8,hx8,ho⟩:=bnd ho;refine run 2 ?_;obtain ⟨y9,hy9,ho⟩:=bnd ho;refine zgF (X:=(zbT)) (Y:=(Bool)) (f:=f_1) (x:=x8) hy9 (.n rfl) rfl rfl rfl (.t rfl) (.c (.t rfl) .n) ?_;exact w ho
  ·cases ho; exact zas (lf [] [])
 ·rcases t11 with b13 | b14
  ·have ho:=zck ho;show zap ..;exact w ho
  ·have ho:=zcl ho;cases ho; exact id (zF (.inr rfl) (.v rfl .n) (by decide))⟩
instance i124 {s_0 f_1}:FI ktab 124 (zZ s_0 f_1) [.val (zg zax) s_0,.val (rFn ktab (zbT) (Bool) (fun x=>[.val zax (x)]) (fun y=>[.val zB (y)])) f_1] (fun out=>[.val zB (out)]):=⟨fun out ho=>by
 delta zZ at ho;refine fn fun _ _=>?_;exact w ho⟩
instance i148 {s_0}:FI ktab 148 (zcn s_0) [.val zbc s_0] (fun out=>[.val zB (out)]):=⟨fun out ho=>by
 delta zcn at ho;refine fn fun _ _=>?_;refine run 6 ?_;obtain ⟨c4,hc4,ho⟩:=bnd ho;refine wcx c4 [] (fun t=>(.normal,fun _=>([(2,vB (t))],[]))) SEL ?_ fun _=>?_
 ·exact w hc4
 ·show zap ..;cases ho; exact zaj (zF (.inr rfl) (.v rfl .n) (by decide))⟩
instance i149:FI ktab 149 (zen) [] (fun out=>[.val (ziw 7 (zj .i64)) (out)]):=⟨fun out ho=>by
 delta zen at ho;refine fn fun _ _=>?_;refine run 2 ?_;refine xal (zv:=.agg [.int .i64 0,.int .i64 0,.int .i64 0,.int .i64 0,.int .i64 0,.int .i64 0,.int .i64 0]) (es:=[.raw (.int .i64 0),.raw (.int .i64 0),.raw (.int .i64 0),.raw (.int .i64 0),.raw (.int .i64 0),.raw (.int .i64 0),.raw (.int .i64 0)]) (by kernel_rfl) fun b1=>?_;refine run 3 ?_;refine zmt (R:=(zj .i64)) (zc:=[.int .i64 0,.int .i64 0,.int .i64 0,.int .i64 0,.int .i64 0,.int .i64 0,.int .i64 0]) 1 0 zwx (by kernel_rfl) (by rfl) (fun _ j hj=>(match j,hj with | 0,_=>zint)) (.n rfl) rfl rfl (.c (.i (by decide) (by decide)) (.c (.i (by decide) (by decide)) (.c (.i (by decide) (by decide)) (.c (.i (by decide) (by decide)) (.c (.i (by decide) (by decide)) (.c (.i (by decide) (by decide)) .n)))))) (by rfl) ?_;refine zfZ 0 zwx rfl (by rfl) (by decide) (.n rfl) rfl rfl (.t rfl) (.t rfl) (by rfl) ?_;refine run 1 ?_;cases ho; exact zaj (zF (.inr rfl) (.a 0 zwx rfl rfl .n) (by decide))⟩
instance i126 {n_0}:FI ktab 126 (zd9 n_0) [.val zax n_0] (fun out=>[.val zB (out)]):=⟨fun out ho=>by
 delta zd9 at ho;refine fn fun _ _=>?_;refine run 7 ?_;obtain ⟨c13,hc13,ho⟩:=bnd ho;refine wcx c13 [1] (fun t=>(.normal,fun _=>([(26,vB (t))],[]))) SEL ?_ fun _=>?_
 ·exact w hc13
 ·show zap ..;refine wct ho (fun hq20 ho=>?_) fun hq20 ho=>?_
  ·exact w ho
  ·refine run 3 ?_;obtain ⟨c22,hc22,ho⟩:=bnd ho;refine wcx c22 [1] (fun t=>(.normal,fun _=>([(34,vB (t))],[]))) SEL ?_ fun _=>?_
   ·exact w hc22
   ·show zap ..;exact w ho⟩
instance i125 {n_0}:FI ktab 125 (zdz n_0) [.val zax n_0] (fun out=>[.val zB (out)]):=⟨fun out ho=>by
 delta zdz at ho;refine fn fun _ _=>?_;exact w ho⟩
instance i150 {s_0 f_1}:FI ktab 150 (zau s_0 f_1) [.val (zg zbJ) s_0,.val (rFn ktab (Rail) (Bool) (fun x=>[.val zbJ (x)]) (fun y=>[.val zB (y)])) f_1] (fun out=>[.val (zj .i64) (out)]):=⟨fun out ho=>by
 delta zau at ho;refine fn fun _ _=>?_;refine run 12 ?_;obtain ⟨t11,ht11,ho⟩:=bnd ho;refine wlp ht11 [0,1,7] (fun s g=>([(8,vI (s))],[])) (zfF (fun b=>(.exit 0,fun g=>([],[]))) (fun b=>(.ret,fun g=>([(4,vI (b))],[])))) [] SEL (pk []) NE (fun s5 g6 _ ho=>?_) fun g12=>?_
 ·refine run 5 ?_;refine wct ho (fun hq7 ho=>?_) fun hq7 ho=>?_
  ·refine run 13 ?_;obtain ⟨x8,hx8,ho⟩:=bnd ho;refine run 2 ?_;obtain ⟨y9,hy9,ho⟩:=bnd ho;refine zgF (X:=(Rail)) (Y:=(Bool)) (f:=f_1) (x:=x8) hy9 (.n rfl) rfl rfl rfl (.t rfl) (.c (.t rfl) .n) ?_;exact w ho
  ·cases ho; exact zas (lf [] [])
 ·rcases t11 with b13 | b14
  ·have ho:=zck ho;show zap ..;exact w ho
  ·have ho:=zcl ho;cases ho; exact id (zF (.inr rfl) (.v rfl .n) (by decide))⟩
instance i127 {s_0 f_1}:FI ktab 127 (z4 s_0 f_1) [.val (zg zbJ) s_0,.val (rFn ktab (Rail) (Bool) (fun x=>[.val zbJ (x)]) (fun y=>[.val zB (y)])) f_1] (fun out=>[.val zB (out)]):=⟨fun out ho=>by
 delta z4 at ho;refine fn fun _ _=>?_;exact w ho⟩
instance i187 {n_1}:FI ktab 187 (zar n_1) [.raw .nilslice,vI n_1] (fun out=>[.row zbc (out)]):=⟨fun out ho=>by
 delta zar at ho;refine fn fun _ _=>?_;refine run 2 ?_;refine zC (.n rfl) rfl rfl (.nil (R:=zbc)) ?_;refine run 7 ?_;refine wct ho (fun hq1 ho=>?_) fun hq1 ho=>?_
 ·refine run 1 ?_;cases ho
 ·refine run 6 ?_;refine zol (et:=98) (by kernel_rfl) rfl (.n rfl) rfl rfl (.t rfl) ?_;refine run 1 ?_;refine zaY (zmu zbc (n:=11) rfl) ?_;refine run 10 ?_;refine wct ho (fun hq2 ho=>?_) fun hq2 ho=>?_
  ·refine run 3 ?_;refine zol (et:=98) (by kernel_rfl) rfl (.n rfl) rfl rfl (.t rfl) ?_;refine zvF (et:=98) (n:=2) (by kernel_rfl) (by kernel_rfl) (.n rfl) rfl rfl (.t rfl) (.t rfl) ?_;refine run 1 ?_;obtain ⟨x3,hx3,ho⟩:=bnd ho;refine zyo zAh Y98 Z98 (by kernel_rfl) rfl hx3 rfl (.n rfl) rfl rfl (.t rfl) (.t rfl) rfl ?_;intro v4;refine run 1 ?_;refine zaY (zmu zbc (n:=23) rfl) ?_;refine run 1 ?_;obtain ⟨x5,hx5,ho⟩:=bnd ho;refine zyp 0 zAh (zvE hx5) (.n rfl) rfl rfl (.t rfl) rfl (.t rfl) rfl ?_;intro v6;exact w ho
  ·refine run 6 ?_;cases ho;refine zoa (zw zbc) ?_;exact zaj (zF (.inr rfl) (.r 0 rfl rfl .n) (by decide))⟩
instance i175 {slices_0}:FI ktab 175 (zan slices_0) [.val (zg (zg zbc)) slices_0] (fun out=>[.row zbc (out)]):=⟨fun out ho=>by
 delta zan at ho;refine fn fun _ _=>?_;refine run 2 ?_;refine zaY (zw zbc) ?_;refine zC (.n rfl) rfl rfl .nilr ?_;refine run 13 ?_;obtain ⟨t9,ht9,ho⟩:=bnd ho;refine wlp ht9 [0,9,10] (fun s g=>([(3,vI (s.1)),(11,vI (s.2))],[])) (fun b=>(.exit 0,fun g=>([(3,vI (b))],[]))) [] SEL (pk []) NE (fun s4 g5 _ ho=>?_) fun g10=>?_
 ·refine run 5 ?_;refine wct ho (fun hq6 ho=>?_) fun hq6 ho=>?_
  ·refine run 5 ?_;obtain ⟨x7,hx7,ho⟩:=bnd ho;refine run 17 ?_;refine wct ho (fun hq8 ho=>?_) fun hq8 ho=>?_
   ·refine run 1 ?_;cases ho
   ·exact w ho
  ·cases ho; exact zas (lf [] [])
 ·show zap ..;refine run 3 ?_;obtain ⟨y11,hy11,ho⟩:=bnd ho;refine zhF (i187.ok _ hy11) (.r (zjd ziz (zjd ziz zmn)) .n) rfl (.n rfl) rfl rfl rfl .f (.c (.o .nilr) (.c (.o (.t rfl)) .n)) ?_;intro v12;show zo ..;refine run 10 ?_;obtain ⟨t23,ht23,ho⟩:=bnd ho;refine wlp ht23 [25,26] (fun s g=>([(6,.raw ((gh g 0))),(27,vI (s.2))],[((gh g 0),.row zbc (s.1))])) (fun b=>(.exit 2,fun g=>([(6,.raw ((gh g 0)))],[((gh g 0),.row zbc (b))]))) [v12] SEL (pk [0]) NE (fun s17 g18 _ ho=>?_) fun g24=>?_
  ·refine run 5 ?_;refine wct ho (fun hq19 ho=>?_) fun hq19 ho=>?_
   ·refine run 5 ?_;obtain ⟨x20,hx20,ho⟩:=bnd ho;refine run 7 ?_;obtain ⟨x21,hx21,ho⟩:=bnd ho;refine xap fun v22=>?_;refine run 5 ?_;cases ho; exact zah (lf [v22] [0])
   ·cases ho; exact zas (lf [(gh g18 0)] [0])
  ·show zap ..;exact w ho⟩
instance i151 {p_0 r_1}:FI ktab 151 (zdp p_0 r_1) [.val zaJ p_0,.val zbJ r_1] (fun out=>[.row zbc (out)]):=⟨fun out ho=>by
 delta zdp at ho;refine fn fun _ _=>?_;refine run 4 ?_;refine zaY (zw zbc) ?_;refine zC (.n rfl) rfl rfl .nilr ?_;refine run 7 ?_;obtain ⟨x5,hx5,ho⟩:=bnd ho;refine run 10 ?_;obtain ⟨x6,hx6,ho⟩:=bnd ho;refine run 5 ?_;refine xcl ho ?_;intro y7 hy7 ho v8;exact w ho⟩
instance i176 {n_0}:FI ktab 176 (zea n_0) [vI n_0] (fun out=>[.val (zj .i64) (out)]):=⟨fun out ho=>by
 delta zea at ho;refine fn fun _ _=>?_;refine run 7 ?_;refine zz6 (by kernel_rfl) (by kernel_rfl) (.n rfl) rfl rfl (.t rfl) ?_;obtain ⟨x1,hx1,ho⟩:=bnd ho;refine zx3 (p:=zpj) rfl (ztq hx1) (fun _=>zok) (.n rfl) rfl rfl rfl .f (zz5 (.t rfl)) ?_;obtain ⟨x2,hx2,ho⟩:=bnd ho;refine zz7 (by kernel_rfl) (by kernel_rfl) hx2 (.n rfl) rfl rfl (.t rfl) ?_;refine run 4 ?_;obtain ⟨t7,ht7,ho⟩:=bnd ho;refine wlp ht7 [0] (fun s g=>([(3,vI (s))],[])) (fun b=>(.exit 0,fun g=>([(3,vI (b))],[]))) [] SEL (pk []) NE (fun s4 g5 _ ho=>?_) fun g8=>?_
 ·exact w ho
 ·show zap ..;refine run 2 ?_;obtain ⟨t13,ht13,ho⟩:=bnd ho;refine wlp ht13 [0] (fun s g=>([(3,vI (s))],[])) (fun b=>(.exit 2,fun g=>([(3,vI (b))],[]))) [] SEL (pk []) NE (fun s10 g11 _ ho=>?_) fun g14=>?_
  ·exact w ho
  ·show zap ..;exact w ho⟩
instance i152 {a_0 b_1}:FI ktab 152 (zbY a_0 b_1) [.val zbc a_0,.val zbc b_1] (fun out=>[.val (zj .i64) (out)]):=⟨fun out ho=>by
 delta zbY at ho;refine fn fun _ _=>?_;exact w ho⟩
instance i129 {p_0 r_1}:FI ktab 129 (zeb p_0 r_1) [.val zaJ p_0,.val zbJ r_1] (fun out=>[.val zB (out)]):=⟨fun out ho=>by
 delta zeb at ho;refine fn fun _ _=>?_;refine run 8 ?_;obtain ⟨c9,hc9,ho⟩:=bnd ho;refine wcx c9 [2,3] (fun t=>(.normal,fun _=>([(43,vB (t))],[]))) SEL ?_ fun _=>?_
 ·exact w hc9
 ·show zap ..;refine wct ho (fun hq18 ho=>?_) fun hq18 ho=>?_
  ·exact w ho
  ·refine run 5 ?_;refine xcl ho ?_;intro y19 hy19 ho v20;show zo ..;refine run 10 ?_;obtain ⟨t71,ht71,ho⟩:=bnd ho;refine wlp ht71 [5,47,48] (fun s g=>([(49,vI (s))],[(v20,.row zbc (y19))])) (zfF (fun b=>(.exit 0,fun g=>([],[]))) (fun b=>(.ret,fun g=>([(4,vB (b))],[])))) [] SEL (pk [0]) NE (fun s45 g46 _ ho=>?_) fun g72=>?_
   ·refine run 5 ?_;refine wct ho (fun hq47 ho=>?_) fun hq47 ho=>?_
    ·refine run 6 ?_;obtain ⟨x48,hx48,ho⟩:=bnd ho;refine run 2 ?_;refine xal (zv:=.agg [.int .i64 0,.int .i64 0]) (es:=[vI (0),vI (0)]) (by kernel_rfl) fun b49=>?_;refine run 2 ?_;refine zaY (zx (R:=zbc) (a:=x48) 0 [7] (za (zb rfl) (za (zb rfl) zd rfl) rfl) rfl rfl ⟨rfl,trivial⟩) ?_;refine run 2 ?_;refine za9 [11] (by kernel_rfl) ?_;refine run 1 ?_;refine xcl ho ?_;intro y62 hy62 ho;show zo ..;refine run 2 ?_;refine wbr ho (fun hb63 ho=>?_) fun hb63 ho=>?_
     ·refine run 15 ?_;refine zaI (.t rfl) (fun _=>?_) (fun hq=>by cases hq);exact w ho
     ·refine run 3 ?_;refine wbr ho (fun hb65 ho=>?_) fun hb65 ho=>?_
      ·refine run 3 ?_;obtain ⟨x66,hx66,ho⟩:=bnd ho;refine run 3 ?_;refine xcl ho ?_;intro y67 hy67 ho;show zo ..;refine xcl ho ?_;intro y68 hy68 ho;show zo ..;refine run 4 ?_;refine wct ho (fun hq69 ho=>?_) fun hq69 ho=>?_
       ·exact w ho
       ·refine run 4 ?_;cases ho; exact zah (lf [] [0])
      ·refine run 12 ?_;refine zaI (.t rfl) (fun hq=>by cases hq) (fun _=>?_);refine run 4 ?_;cases ho; exact zah (lf [] [0])
    ·cases ho; exact zas (lf [] [])
   ·rcases t71 with b73 | b74
    ·have ho:=zck ho;show zap ..;exact w ho
    ·have ho:=zcl ho;cases ho; exact id (zF (.inr rfl) (.v rfl .n) (by decide))⟩
instance i128 {r_0 p_1}:FI ktab 128 (zcI r_0 p_1) [.val zbJ r_0,.val (zad zaJ) p_1] (fun out=>[.val zB (out)]):=⟨fun out ho=>by
 delta zcI at ho;refine fn fun _ _=>?_;exact w ho⟩
instance i130 {p_0 e_1}:FI ktab 130 (zbG p_0 e_1) [.val zaJ p_0,.val zA e_1] (fun out=>[.val (zj .i64) (out)]):=⟨fun out ho=>by
 delta zbG at ho;refine fn fun _ _=>?_;exact w ho⟩
instance i98 {p_0}:FI ktab 98 (zcX p_0) [.val zaJ p_0] (fun out=>[.val (zj .i64) (out)]):=⟨fun out ho=>by
 delta zcX at ho;refine fn fun _ _=>?_;refine run 7 ?_;obtain ⟨c4,hc4,ho⟩:=bnd ho;refine wcx c4 [1] (fun t=>(.normal,fun _=>([(19,vB (t))],[]))) SEL ?_ fun _=>?_
 ·exact w hc4
 ·show zap ..;refine wct ho (fun hq8 ho=>?_) fun hq8 ho=>?_
  ·exact w ho
  ·refine run 3 ?_;obtain ⟨c12,hc12,ho⟩:=bnd ho;refine wcx c12 [1] (fun t=>(.normal,fun _=>([(28,vB (t))],[]))) SEL ?_ fun _=>?_
   ·have ho:=hc12;refine run 3 ?_;obtain ⟨y13,hy13,ho⟩:=bnd ho;refine zhF (i124.ok _ hy13) (.v zjc .n) rfl (.n rfl) rfl rfl rfl .f (.c (.o (.t rfl)) (.c (.o (.fv (zha (fun x y hf=>i125.ok _ hf) rfl))) .n)) ?_;show zo ..;refine run 1 ?_;refine wbr ho (fun hb14 ho=>?_) fun hb14 ho=>?_
    ·exact w ho
    ·refine run 2 ?_;refine zku (X:=(Rail)) (Y:=(Bool)) (fun x=>[.val zbJ (x)]) (fun y=>[.val zB (y)]) (f:=(fun x=>zcI x p_0)) (fun x y hf=>i128.ok _ hf) rfl (.g rfl rfl (gf0 hb14)) rfl rfl .n (.c (.t rfl) .n) ?_;exact w ho
   ·show zap ..;refine wct ho (fun hq16 ho=>?_) fun hq16 ho=>?_
    ·exact w ho
    ·refine run 3 ?_;refine zqP zB zwu rfl (.n rfl) rfl rfl ?_;intro b17;refine run 11 ?_;obtain ⟨t173,ht173,ho⟩:=bnd ho;refine wlp ht173 [] (fun s g=>([(1,.val (zad zaJ) (p_0)),(3,.raw (.map b17)),(31,.val (zg zax) (p_0.1)),(32,vI ((zz p_0.1))),(33,vI (s.1))],[(.map b17,.mp zA zB (s.2))])) (zfF (fun b=>(.exit 0,fun g=>([(1,.val (zad zaJ) (p_0)),(3,.raw (.map b17))],[(.map b17,.mp zA zB (b))]))) (fun b=>(.ret,fun g=>([(2,vI (b))],[])))) [] SEL (pk [0]) NE (fun s120 g121 _ ho=>?_) fun g174=>?_
     ·refine run 5 ?_;refine wct ho (fun hq122 ho=>?_) fun hq122 ho=>?_
      ·refine run 6 ?_;obtain ⟨x123,hx123,ho⟩:=bnd ho;refine run 2 ?_;refine xal (zv:=.agg [.int .i64 0,.int .i64 0,.int .i64 0,.nilslice,.int .i64 0]) (es:=[vI (0),vI (0),vI (0),.val (zg zA) ([]),vI (0)]) (by kernel_rfl) fun b124=>?_;refine run 2 ?_;refine zaY (zx (R:=zax) (a:=x123) 0 [5] (za (za (zb rfl) (za (zb rfl) zd rfl) rfl) (za (zb rfl) (za (zb rfl) (za (zb rfl) zd rfl) rfl) rfl) rfl) rfl rfl ⟨rfl,trivial⟩) ?_;refine run 9 ?_;obtain ⟨t169,ht169,ho⟩:=bnd ho;refine wlp ht169 [1,3,4,31,32,33,39,40] (fun s g=>([(41,vI (s.1))],[(.map b17,.mp zA zB (s.2))])) (zfF (fun b=>(.exit 2,fun g=>([],[(.map b17,.mp zA zB (b))]))) (fun b=>(.ret,fun g=>([(2,vI (b.1))],[])))) [] SEL (pk [0]) NE (fun s153 g154 _ ho=>?_) fun g170=>?_
       ·refine run 5 ?_;refine wct ho (fun hq155 ho=>?_) fun hq155 ho=>?_
        ·refine run 5 ?_;obtain ⟨x156,hx156,ho⟩:=bnd ho;refine run 2 ?_;refine xal (zv:=.agg [.int .i64 0,.bool false]) (es:=[vI (0),vB (false)]) (by kernel_rfl) fun b157=>?_;refine run 1 ?_;refine zaY (zx (R:=zA) (a:=x156) 0 [7] (za (zb rfl) (za (zb rfl) zd rfl) rfl) rfl rfl ⟨rfl,trivial⟩) ?_;refine run 10 ?_;refine xcl ho ?_;intro y162 hy162 ho;show zo ..;refine run 2 ?_;refine wbr ho (fun hb163 ho=>?_) fun hb163 ho=>?_
         ·refine run 12 ?_;refine zaI (.t rfl) (fun _=>?_) (fun hq=>by cases hq);exact w ho
         ·refine run 2 ?_;refine zyl 0 rfl zwu Z4 rfl (.g rfl rfl (gf0 hb163)) rfl rfl (.t rfl) (.t rfl) ?_;refine run 2 ?_;refine wbr ho (fun hb165 ho=>?_) fun hb165 ho=>?_
          ·refine run 7 ?_;refine zaI (.t rfl) (fun _=>?_) (fun hq=>by cases hq);exact w ho
          ·refine run 2 ?_;refine xcl ho ?_;intro y167 hy167 ho;show zo ..;refine run 4 ?_;refine wct ho (fun hq168 ho=>?_) fun hq168 ho=>?_
           ·exact w ho
           ·refine run 4 ?_;refine zoh 0 zwu (.inl rfl) rfl (.n rfl) rfl (.t rfl) (.t rfl) .b rfl ?_;refine run 4 ?_;cases ho; exact zah (lf [] [0])
        ·cases ho; exact zas (lf [] [0])
       ·rcases t169 with b171 | b172
        ·have ho:=zck ho;show zap ..;refine run 3 ?_;cases ho; exact zah (lf [] [0])
        ·have ho:=zcl ho;cases ho; exact id (lf [] [])
      ·cases ho; exact zas (lf [] [0])
     ·rcases t173 with b175 | b176
      ·have ho:=zck ho;show zap ..;refine run 4 ?_;obtain ⟨x177,hx177,ho⟩:=bnd ho;refine zyq (st:=199) (kt:=123) (et:=4) 0 rfl (by kernel_rfl) hx177 rfl rfl (.n rfl) rfl rfl (.t rfl) ?_;exact w ho
      ·have ho:=zcl ho;cases ho; exact id (zF (.inr rfl) (.v rfl .n) (by decide))⟩
instance i99 {l_0}:FI ktab 99 (zcY l_0) [.val zbO l_0] (fun out=>[.val (ziw 2 zbo) (out)]):=⟨fun out ho=>by
 delta zcY at ho;refine fn fun _ _=>?_;refine run 3 ?_;refine xal (zv:=.agg [.nilslice,.nilslice,.nilslice,.nilslice,.nilslice,.nilslice]) (es:=[.raw (.nilslice),.raw (.nilslice),.raw (.nilslice),.raw (.nilslice),.raw (.nilslice),.raw (.nilslice)]) (by kernel_rfl) fun b1=>?_;refine run 7 ?_;refine zof (R:=zbo) (zc:=[.nilslice,.nilslice,.nilslice,.nilslice,.nilslice,.nilslice]) zww (by kernel_rfl) (by rfl) (.n rfl) rfl rfl (.c (.t rfl) (.c (.t rfl) .n)) (by rfl) ?_;refine zfZ 0 zww rfl (by rfl) (by decide) (.n rfl) rfl rfl (.t rfl) (.t rfl) (by rfl) ?_;refine run 1 ?_;cases ho; exact zaj (zF (.inr rfl) (.a 0 zww rfl rfl .n) (by decide))⟩
instance i153 {p_0}:FI ktab 153 (zdq p_0) [.val zaJ p_0] (fun out=>[.val (ze0 zu) (out.1),.val zB (out.2)]):=⟨fun out ho=>by
 delta zdq at ho;refine fn fun _ _=>?_;refine run 3 ?_;refine zaq rfl (.n rfl) rfl (e:=.val (ze0 zu) none) (fun z fr h s=>⟨_,rfl,zcG⟩) ?_;refine run 6 ?_;refine xcl ho ?_;intro y1 hy1 ho;show zo ..;refine run 2 ?_;refine wct ho (fun hq2 ho=>?_) fun hq2 ho=>?_
 ·refine run 2 ?_;refine zaq rfl (.n rfl) rfl (e:=.val (ze0 zu) none) (fun z fr h s=>⟨_,rfl,zcG⟩) ?_;exact w ho
 ·refine run 4 ?_;refine zqP (zj .i64) zwv rfl (.n rfl) rfl rfl ?_;intro b3;refine zaY (zqQ (n:=18) rfl) ?_;refine zlc (R:=zhH) zAi (.n rfl) rfl rfl rfl (.p (.t rfl) rfl (.z (fun _=>zqX) (.p (.t rfl) rfl (.n rfl)))) ?_;refine xbo fun b4=>?_;refine zaY (zgh (q:=2) 0 rfl rfl rfl) ?_;refine zaY (zw (zj .i64)) ?_;refine zaY (zpi (q:=3) 1 rfl rfl rfl) ?_;refine run 11 ?_;obtain ⟨t82,ht82,ho⟩:=bnd ho;refine wlp ht82 [1,4,22,23] (fun s g=>([(24,vI (s.1))],[(.ptr b4 0,.box [.val (zg zax) (p_0.1),.val (zg zbJ) (p_0.2.1),.raw ((gh g 0)),.raw (.map b3)]),(.map b3,.mp zA (zj .i64) (([]:(List (zq×Int))))),((gh g 0),.row (zj .i64) (s.2))])) (fun b=>(.exit 0,fun g=>([],[(.ptr b4 0,.box [.val (zg zax) (p_0.1),.val (zg zbJ) (p_0.2.1),.raw ((gh g 0)),.raw (.map b3)]),(.map b3,.mp zA (zj .i64) (([]:(List (zq×Int))))),((gh g 0),.row (zj .i64) (b))]))) [.nilslice] SEL (pk [1,2,0]) NE (fun s55 g56 _ ho=>?_) fun g83=>?_
  ·refine run 5 ?_;refine wct ho (fun hq57 ho=>?_) fun hq57 ho=>?_
   ·refine run 5 ?_;obtain ⟨x58,hx58,ho⟩:=bnd ho;refine run 2 ?_;refine xal (zv:=.agg [.int .i64 0,.int .i64 0,.nilslice,.int .i64 0,.int .i64 0]) (es:=[vI (0),vI (0),.val (zg zbc) ([]),vI (0),vI (0)]) (by kernel_rfl) fun b59=>?_;refine run 1 ?_;refine zaY (zx (R:=zbJ) (a:=x58) 0 [6] (za (zb rfl) (za (zb rfl) (za (zb rfl) (za (zb rfl) (za (zb rfl) zd rfl) rfl) rfl) rfl) rfl) rfl rfl ⟨rfl,trivial⟩) ?_;refine run 5 ?_;refine xcl ho ?_;intro y60 hy60 ho v61;show zo ..;refine run 12 ?_;obtain ⟨t78,ht78,ho⟩:=bnd ho;refine wlp ht78 [1,4,7,22,23,24] (fun s g=>([(8,vI (s.1)),(9,vI (s.2))],[(v61,.row zbc (y60)),(.ptr b4 0,.box [.val (zg zax) (p_0.1),.val (zg zbJ) (p_0.2.1),.raw ((gh g56 0)),.raw (.map b3)]),(.map b3,.mp zA (zj .i64) (([]:(List (zq×Int))))),((gh g56 0),.row (zj .i64) (s55.2))])) (fun b=>(.exit 2,fun g=>([(8,vI (b))],[(.ptr b4 0,.box [.val (zg zax) (p_0.1),.val (zg zbJ) (p_0.2.1),.raw ((gh g56 0)),.raw (.map b3)]),(.map b3,.mp zA (zj .i64) (([]:(List (zq×Int))))),((gh g56 0),.row (zj .i64) (s55.2))]))) [] SEL (pk [0,1,2,3]) NE (fun s69 g70 _ ho=>?_) fun g79=>?_
    ·refine run 8 ?_;refine wct ho (fun hq71 ho=>?_) fun hq71 ho=>?_
     ·refine run 3 ?_;refine za9 [5,9] (by kernel_rfl) ?_;refine run 4 ?_;obtain ⟨x75,hx75,ho⟩:=bnd ho;refine run 4 ?_;obtain ⟨x76,hx76,ho⟩:=bnd ho;refine run 2 ?_;refine xcl ho ?_;intro y77 hy77 ho;show zo ..;refine run 7 ?_;cases ho; exact zah (lf [] [0,1,2,3])
     ·cases ho; exact zas (lf [] [1,2,3])
    ·show zap ..;refine run 8 ?_;obtain ⟨x80,hx80,ho⟩:=bnd ho;refine xap fun v81=>?_;refine run 2 ?_;refine zeG 1 0 (U27).sz rfl rfl (by exact Nat.le_of_ble_eq_true rfl) (.n rfl) rfl rfl (.t rfl) (.t rfl) (by rfl) ?_;refine run 4 ?_;cases ho; exact zah (lf [v81] [1,2,0])
   ·cases ho; exact zas (lf [(gh g56 0)] [0,1,2])
  ·show zap ..;refine run 9 ?_;obtain ⟨t134,ht134,ho⟩:=bnd ho;refine wlp ht134 [4,61,62] (fun s g=>([(63,vI (s.1))],[(.ptr b4 0,.box [.val (zg zax) (p_0.1),.val (zg zbJ) (p_0.2.1),.raw ((gh g83 0)),.raw (.map b3)]),(.map b3,.mp zA (zj .i64) (s.2)),((gh g83 0),.row (zj .i64) (t82))])) (fun b=>(.exit 4,fun g=>([],[(.ptr b4 0,.box [.val (zg zax) (p_0.1),.val (zg zbJ) (p_0.2.1),.raw ((gh g83 0)),.raw (.map b3)]),(.map b3,.mp zA (zj .i64) (b)),((gh g83 0),.row (zj .i64) (t82))]))) [] SEL (pk [0,1,2]) NE (fun s116 g117 _ ho=>?_) fun g135=>?_
   ·refine run 5 ?_;refine wct ho (fun hq118 ho=>?_) fun hq118 ho=>?_
    ·refine run 5 ?_;obtain ⟨x119,hx119,ho⟩:=bnd ho;refine run 2 ?_;refine xal (zv:=.agg [.int .i64 0,.int .i64 0,.int .i64 0,.nilslice,.int .i64 0]) (es:=[vI (0),vI (0),vI (0),.val (zg zA) ([]),vI (0)]) (by kernel_rfl) fun b120=>?_;refine run 1 ?_;refine zaY (zx (R:=zax) (a:=x119) 0 [11] (za (za (zb rfl) (za (zb rfl) zd rfl) rfl) (za (zb rfl) (za (zb rfl) (za (zb rfl) zd rfl) rfl) rfl) rfl) rfl rfl ⟨rfl,trivial⟩) ?_;refine run 9 ?_;obtain ⟨t132,ht132,ho⟩:=bnd ho;refine wlp ht132 [4,61,62,63,68,69] (fun s g=>([(70,vI (s.1))],[(.ptr b4 0,.box [.val (zg zax) (p_0.1),.val (zg zbJ) (p_0.2.1),.raw ((gh g83 0)),.raw (.map b3)]),(.map b3,.mp zA (zj .i64) (s.2)),((gh g83 0),.row (zj .i64) (t82))])) (fun b=>(.exit 6,fun g=>([],[(.ptr b4 0,.box [.val (zg zax) (p_0.1),.val (zg zbJ) (p_0.2.1),.raw ((gh g83 0)),.raw (.map b3)]),(.map b3,.mp zA (zj .i64) (b)),((gh g83 0),.row (zj .i64) (t82))]))) [] SEL (pk [0,1,2]) NE (fun s127 g128 _ ho=>?_) fun g133=>?_
     ·refine run 5 ?_;refine wct ho (fun hq129 ho=>?_) fun hq129 ho=>?_
      ·refine run 6 ?_;obtain ⟨x130,hx130,ho⟩:=bnd ho;refine run 2 ?_;refine xal (zv:=.agg [.int .i64 0,.bool false]) (es:=[vI (0),vB (false)]) (by kernel_rfl) fun b131=>?_;refine run 2 ?_;refine zaY (zx (R:=zA) (a:=x130) 0 [13] (za (zb rfl) (za (zb rfl) zd rfl) rfl) rfl rfl ⟨rfl,trivial⟩) ?_;refine run 1 ?_;refine za9 [3] (by kernel_rfl) ?_;refine run 6 ?_;refine zoh 1 zwv (.inl rfl) rfl (.n rfl) rfl (.t rfl) (.t rfl) (.t rfl) rfl ?_;refine run 4 ?_;cases ho; exact zah (lf [] [0,1,2])
      ·cases ho; exact zas (lf [] [0,1,2])
     ·show zap ..;refine run 3 ?_;cases ho; exact zah (lf [] [0,1,2])
    ·cases ho; exact zas (lf [] [0,1,2])
   ·show zap ..;refine run 6 ?_;cases ho;refine zoa (znw 1 0 (q:=3) [] rfl rfl rfl rfl (by rfl) trivial) ?_;refine zoa (zgf 1 0 (q:=2) [] rfl rfl rfl rfl (by rfl) trivial) ?_;refine zoa (zx (R:=zu) (a:=((p_0.1,p_0.2.1,()),t82,t134,())) 0 [4,83,2] (za (za (zb rfl) (za (zb rfl) zd rfl) rfl) (za (zb rfl) (za (zb rfl) zd rfl) rfl) rfl) rfl rfl ⟨rfl,rfl,rfl,trivial⟩) ?_;refine zoa (zlk (n:=2) rfl) ?_;exact zaj (zF (.inr rfl) (.v rfl (.v rfl .n)) (by decide))⟩
instance i171 {n_0 m_1}:FI ktab 171 (zaZ n_0 m_1) [.val (zad zu) n_0,.val zy m_1] (fun out=>[.val zB (out)]):=⟨fun out ho=>by
 delta zaZ at ho;refine fn fun _ _=>?_;exact w ho⟩
instance i202 {m_0}:FI ktab 202 (zcJ m_0) [.val zy m_0] (fun out=>[.val zA (out)]):=⟨fun out ho=>by
 delta zcJ at ho;refine fn fun _ _=>?_;refine run 3 ?_;refine xal (zv:=.agg [.int .i64 0,.bool false]) (es:=[vI (0),vB (false)]) (by kernel_rfl) fun b1=>?_;refine run 11 ?_;cases ho; exact zaj (zF (.inr rfl) (.b 0 zAg (za (zb rfl) (za (zb rfl) zd rfl) rfl) rfl rfl .n) (by decide))⟩
instance i209 {p_0 from_1 to_2}:FI ktab 209 (zdj p_0 from_1 to_2) [.val z8 p_0,vI from_1,vI to_2] (fun out=>[.val zB (out)]):=⟨fun out ho=>by
 delta zdj at ho;refine fn fun _ _=>?_;exact w ho⟩
instance i210 {p_0 from_1 to_2}:FI ktab 210 (zcK p_0 from_1 to_2) [.val z8 p_0,vI from_1,vI to_2] (fun out=>[.val zB (out)]):=⟨fun out ho=>by
 delta zcK at ho;refine fn fun _ _=>?_;exact w ho⟩
instance i211 {p_0 from_1 to_2}:FI ktab 211 (zbt p_0 from_1 to_2) [.val z8 p_0,vI from_1,vI to_2] (fun out=>[.val zB (out)]):=⟨fun out ho=>by
 delta zbt at ho;refine fn fun _ _=>?_;refine run 6 ?_;obtain ⟨c3,hc3,ho⟩:=bnd ho;refine wcx c3 [] (fun t=>(.normal,fun _=>([(6,vB (t))],[]))) SEL ?_ fun _=>?_
 ·exact w hc3
 ·show zap ..;cases ho; exact zaj (zF (.inr rfl) (.v rfl .n) (by decide))⟩
instance i212 {p_0 from_1 to_2}:FI ktab 212 (zbP p_0 from_1 to_2) [.val z8 p_0,vI from_1,vI to_2] (fun out=>[.val zB (out)]):=⟨fun out ho=>by
 delta zbP at ho;refine fn fun _ _=>?_;refine run 6 ?_;obtain ⟨c3,hc3,ho⟩:=bnd ho;refine wcx c3 [] (fun t=>(.normal,fun _=>([(6,vB (t))],[]))) SEL ?_ fun _=>?_
 ·exact w hc3
 ·show zap ..;cases ho; exact zaj (zF (.inr rfl) (.v rfl .n) (by decide))⟩
instance i213 {x_0 from_1 to_2}:FI ktab 213 (zbg x_0 from_1 to_2) [.val z8 x_0,vI from_1,vI to_2] (fun out=>[.val zB (out)]):=⟨fun out ho=>by
 delta zbg at ho;refine fn fun _ _=>?_;refine run 6 ?_;obtain ⟨c5,hc5,ho⟩:=bnd ho;refine wcx c5 [] (fun t=>(.normal,fun _=>([(6,vB (t))],[]))) SEL ?_ fun _=>?_
 ·exact w hc5
 ·show zap ..;cases ho; exact zaj (zF (.inr rfl) (.v rfl .n) (by decide))⟩
instance i214 {x_0 from_1 to_2}:FI ktab 214 (zbh x_0 from_1 to_2) [.val z8 x_0,vI from_1,vI to_2] (fun out=>[.val zB (out)]):=⟨fun out ho=>by
 delta zbh at ho;refine fn fun _ _=>?_;refine run 6 ?_;obtain ⟨c5,hc5,ho⟩:=bnd ho;refine wcx c5 [] (fun t=>(.normal,fun _=>([(6,vB (t))],[]))) SEL ?_ fun _=>?_
 ·exact w hc5
 ·show zap ..;cases ho; exact zaj (zF (.inr rfl) (.v rfl .n) (by decide))⟩
instance i203 {x_0 from_1 to_2}:FI ktab 203 (za6 x_0 from_1 to_2) [.val z8 x_0,vI from_1,vI to_2] (fun out=>[.val zB (out)]):=⟨fun out ho=>by
 delta za6 at ho;refine fn fun _ _=>?_;refine run 7 ?_;refine zmt (R:=(rFn ktab (zaf×Int×Int) (Bool) (fun x=>[.val z8 (x.1),.val (zj .i64) (x.2.1),.val (zj .i64) (x.2.2)]) (fun y=>[.val zB (y)]))) (zc:=[.nilfunc,.nilfunc,.nilfunc,.nilfunc,.nilfunc,.nilfunc,.nilfunc]) 1 (fun _=>none) zwy (by kernel_rfl) (by rfl) (fun _ j hj=>(match j,hj with | 0,_=>zzW)) (.n rfl) rfl rfl (.c (.fv (zha (fun x y hf=>i209.ok _ hf) rfl)) (.c (.fv (zha (fun x y hf=>i210.ok _ hf) rfl)) (.c (.fv (zha (fun x y hf=>i211.ok _ hf) rfl)) (.c (.fv (zha (fun x y hf=>i212.ok _ hf) rfl)) (.c (.fv (zha (fun x y hf=>i213.ok _ hf) rfl)) (.c (.fv (zha (fun x y hf=>i214.ok _ hf) rfl)) .n)))))) (by rfl) ?_;refine xal (zv:=.agg [.nilfunc,.nilfunc,.nilfunc,.nilfunc,.nilfunc,.nilfunc,.nilfunc]) (es:=[.raw (.nilfunc),.raw (.nilfunc),.raw (.nilfunc),.raw (.nilfunc),.raw (.nilfunc),.raw (.nilfunc),.raw (.nilfunc)]) (by kernel_rfl) fun b1=>?_;refine zfZ 0 zwy rfl (by rfl) (by decide) (.n rfl) rfl rfl (.t rfl) (.t rfl) (by rfl) ?_;refine zaY (zkz (R:=(rFn ktab (zaf×Int×Int) (Bool) (fun x=>[.val z8 (x.1),.val (zj .i64) (x.2.1),.val (zj .i64) (x.2.2)]) (fun y=>[.val zB (y)]))) 0 [7] (by decide) (by decide) rfl rfl ⟨rfl,trivial⟩) ?_;refine run 6 ?_;obtain ⟨x4,hx4,ho⟩:=bnd ho;refine zci zwy hx4 (.n rfl) rfl rfl (.t rfl) (.t rfl) ?_;refine run 4 ?_;obtain ⟨y5,hy5,ho⟩:=bnd ho;refine zgF (X:=(zaf×Int×Int)) (Y:=(Bool)) (f:=x4) (x:=(x_0,from_1,to_2)) hy5 (.n rfl) rfl rfl rfl (.t rfl) (.c (.t rfl) (.c (.t rfl) (.c (.t rfl) .n))) ?_
 exact w ho⟩
instance i204 {m_0}:FI ktab 204 (zcv m_0) [.val zy m_0] (fun out=>[.val (zj .i64) (out)]):=⟨fun out ho=>by
 delta zcv at ho;refine fn fun _ _=>?_;exact w ho⟩
instance i120 {x_0}:FI ktab 120 (zce x_0) [vI x_0] (fun out=>[.val zB (out)]):=⟨fun out ho=>by
 delta zce at ho;refine fn fun _ _=>?_;exact w ho⟩
instance i192 {x_0 y_1}:FI ktab 192 (zaU x_0 y_1) [vI x_0,vI y_1] (fun out=>[.val zB (out)]):=⟨fun out ho=>by
 delta zaU at ho;refine fn fun _ _=>?_;refine run 5 ?_;obtain ⟨c5,hc5,ho⟩:=bnd ho;refine wcx c5 [] (fun t=>(.normal,fun _=>([(4,vB (t))],[]))) SEL ?_ fun _=>?_
 ·exact w hc5
 ·show zap ..;cases ho; exact zaj (zF (.inr rfl) (.v rfl .n) (by decide))⟩
theorem zdc   {data_0:(List Int)} {a_1:Int} {b_2:Int} {out:((List Int))} (ho:z6 data_0 a_1 b_2=some out) (v_0:zi):znt ktab 217 [.raw v_0,.val (zj .i64) a_1,.val (zj .i64) b_2] [(v_0,.row (zj .i64) (data_0))] [] (fun γ=>[(v_0,.row (zj .i64) (out))]):=by
 refine zjf (F:=Tryz.f217) (by rfl) (by rfl) (by rfl) (fun C=>?_);delta z6 at ho;refine run 7 ?_;obtain ⟨t216,ht216,ho⟩:=bnd ho;refine wlp ht216 [0,1,2] (fun s g=>([(6,vI (s.1))],[(v_0,.row (zj .i64) (s.2))])) (fun b=>(.exit 0,fun g=>([],[(v_0,.row (zj .i64) (b))]))) [] SEL (pk [0]) NE (fun s143 g144 _ ho=>?_) fun g217=>?_
 ·refine run 7 ?_;refine wct ho (fun hq145 ho=>?_) fun hq145 ho=>?_
  ·refine run 9 ?_;obtain ⟨t214,ht214,ho⟩:=bnd ho;refine wlp ht214 [0,1,2,6] (fun s g=>([(7,vI (s.1))],[(v_0,.row (zj .i64) (s.2))])) (fun b=>(.exit 2,fun g=>([],[(v_0,.row (zj .i64) (b))]))) [] SEL (pk [0]) NE (fun s190 g191 _ ho=>?_) fun g215=>?_
   ·refine run 2 ?_;refine za9 [7,12] (by kernel_rfl) ?_;refine run 4 ?_;refine wbr ho (fun hb200 ho=>?_) fun hb200 ho=>?_
    ·refine run 2 ?_;obtain ⟨x201,hx201,ho⟩:=bnd ho;refine run 5 ?_;obtain ⟨x202,hx202,ho⟩:=bnd ho;refine run 2 ?_;refine xcl ho ?_;intro y203 hy203 ho;show zo ..;refine run 2 ?_;refine wct ho (fun hq204 ho=>?_) fun hq204 ho=>?_
     ·refine run 3 ?_;refine za9 [9,13] (by kernel_rfl) ?_;refine run 8 ?_;obtain ⟨x209,hx209,ho⟩:=bnd ho;refine run 4 ?_;obtain ⟨x210,hx210,ho⟩:=bnd ho;refine run 2 ?_;obtain ⟨x211,hx211,ho⟩:=bnd ho;refine run 2 ?_;obtain ⟨x212,hx212,ho⟩:=bnd ho;refine run 7 ?_;cases ho; exact zah (lf [] [0])
     ·cases ho; exact zas (lf [] [0])
    ·refine run 12 ?_;refine zaI (.t rfl) (fun hq=>by cases hq) (fun _=>?_);cases ho; exact zas (lf [] [0])
   ·show zap ..;refine run 4 ?_;cases ho; exact zah (lf [] [0])
  ·cases ho; exact zas (lf [] [0])
 ·cases ho; exact id (zgG [0] [] (.inl rfl) .n rfl (by decide))
instance i225 {x_0}:FI ktab 225 (zfi x_0) [.val (zj .u32) x_0] (fun out=>[.val (zj .i64) (out)]):=⟨fun out ho=>by
 delta zfi at ho;refine fn fun _ _=>?_;refine run 10 ?_;refine wct ho (fun hq1 ho=>?_) fun hq1 ho=>?_
 ·refine run 3 ?_;obtain ⟨x2,hx2,ho⟩:=bnd ho;refine run 12 ?_;refine wct ho (fun hq3 ho=>?_) fun hq3 ho=>?_
  ·refine run 3 ?_;obtain ⟨x4,hx4,ho⟩:=bnd ho;refine run 13 ?_;obtain ⟨x5,hx5,ho⟩:=bnd ho;refine zej (tbl:=zbC) (by kernel_rfl) (by kernel_rfl) hx5 (.n rfl) rfl rfl (.t rfl) ?_;exact w ho
  ·refine run 6 ?_;obtain ⟨x6,hx6,ho⟩:=bnd ho;refine zej (tbl:=zbC) (by kernel_rfl) (by kernel_rfl) hx6 (.n rfl) rfl rfl (.t rfl) ?_;exact w ho
 ·refine run 7 ?_;refine wct ho (fun hq7 ho=>?_) fun hq7 ho=>?_
  ·refine run 3 ?_;obtain ⟨x8,hx8,ho⟩:=bnd ho;refine run 13 ?_;obtain ⟨x9,hx9,ho⟩:=bnd ho;refine zej (tbl:=zbC) (by kernel_rfl) (by kernel_rfl) hx9 (.n rfl) rfl rfl (.t rfl) ?_;exact w ho
  ·refine run 6 ?_;obtain ⟨x10,hx10,ho⟩:=bnd ho;refine zej (tbl:=zbC) (by kernel_rfl) (by kernel_rfl) hx10 (.n rfl) rfl rfl (.t rfl) ?_;exact w ho⟩
instance i226 {x_0}:FI ktab 226 (zdZ x_0) [.val (zj .u64) x_0] (fun out=>[.val (zj .i64) (out)]):=⟨fun out ho=>by
 delta zdZ at ho;refine fn fun _ _=>?_;refine run 10 ?_;refine wct ho (fun hq1 ho=>?_) fun hq1 ho=>?_
 ·refine run 3 ?_;obtain ⟨x2,hx2,ho⟩:=bnd ho;refine run 12 ?_;refine wct ho (fun hq3 ho=>?_) fun hq3 ho=>?_
  ·refine run 3 ?_;obtain ⟨x4,hx4,ho⟩:=bnd ho;refine run 14 ?_;refine wct ho (fun hq5 ho=>?_) fun hq5 ho=>?_
   ·refine run 3 ?_;obtain ⟨x6,hx6,ho⟩:=bnd ho;refine run 13 ?_;obtain ⟨x7,hx7,ho⟩:=bnd ho;refine zej (tbl:=zbC) (by kernel_rfl) (by kernel_rfl) hx7 (.n rfl) rfl rfl (.t rfl) ?_;exact w ho
   ·refine run 6 ?_;obtain ⟨x8,hx8,ho⟩:=bnd ho;refine zej (tbl:=zbC) (by kernel_rfl) (by kernel_rfl) hx8 (.n rfl) rfl rfl (.t rfl) ?_;exact w ho
  ·refine run 7 ?_;refine wct ho (fun hq9 ho=>?_) fun hq9 ho=>?_
   ·refine run 3 ?_;obtain ⟨x10,hx10,ho⟩:=bnd ho;refine run 13 ?_;obtain ⟨x11,hx11,ho⟩:=bnd ho;refine zej (tbl:=zbC) (by kernel_rfl) (by kernel_rfl) hx11 (.n rfl) rfl rfl (.t rfl) ?_;exact w ho
   ·refine run 6 ?_;obtain ⟨x12,hx12,ho⟩:=bnd ho;refine zej (tbl:=zbC) (by kernel_rfl) (by kernel_rfl) hx12 (.n rfl) rfl rfl (.t rfl) ?_;exact w ho
 ·refine run 7 ?_;refine wct ho (fun hq13 ho=>?_) fun hq13 ho=>?_
  ·refine run 3 ?_;obtain ⟨x14,hx14,ho⟩:=bnd ho;refine run 14 ?_;refine wct ho (fun hq15 ho=>?_) fun hq15 ho=>?_
   ·refine run 3 ?_;obtain ⟨x16,hx16,ho⟩:=bnd ho;refine run 13 ?_;obtain ⟨x17,hx17,ho⟩:=bnd ho;refine zej (tbl:=zbC) (by kernel_rfl) (by kernel_rfl) hx17 (.n rfl) rfl rfl (.t rfl) ?_;exact w ho
   ·refine run 6 ?_;obtain ⟨x18,hx18,ho⟩:=bnd ho;refine zej (tbl:=zbC) (by kernel_rfl) (by kernel_rfl) hx18 (.n rfl) rfl rfl (.t rfl) ?_;exact w ho
  ·refine run 7 ?_;refine wct ho (fun hq19 ho=>?_) fun hq19 ho=>?_
   ·refine run 3 ?_;obtain ⟨x20,hx20,ho⟩:=bnd ho;refine run 13 ?_;obtain ⟨x21,hx21,ho⟩:=bnd ho;refine zej (tbl:=zbC) (by kernel_rfl) (by kernel_rfl) hx21 (.n rfl) rfl rfl (.t rfl) ?_;exact w ho
   ·refine run 6 ?_;obtain ⟨x22,hx22,ho⟩:=bnd ho;refine zej (tbl:=zbC) (by kernel_rfl) (by kernel_rfl) hx22 (.n rfl) rfl rfl (.t rfl) ?_;exact w ho⟩
instance i216 {x_0}:FI ktab 216 (zcL x_0) [.val (zj .u64) x_0] (fun out=>[.val (zj .i64) (out)]):=⟨fun out ho=>by
 delta zcL at ho;refine fn fun _ _=>?_;refine run 5 ?_;refine zaI .b (fun hq=>by cases hq) (fun _=>?_);exact w ho⟩
instance i228 {length_0}:FI ktab 228 (zdA length_0) [vI length_0] (fun out=>[.val (zj .u64) (out)]):=⟨fun out ho=>by
 delta zdA at ho;refine fn fun _ _=>?_;exact w ho⟩
end Go.Ai.TabYtppebpagcocogaaGreat
