/- Written by program: walks through functions. -/
import Derived.Test.YtcokdbcdlaofbaaGreatQ19
set_option linter.unusedSimpArgs false
set_option linter.unusedVariables false
set_option linter.unusedSectionVars false
namespace Go.Ai.TabYtcokdbcdlaofbaaGreat
open Go Go.Ai Go.Ai.Sx Go.Proofs
attribute [local irreducible] SOps
set_option maxRecDepth 100000
set_option maxHeartbeats 4000000
instance i84 {n_0 m_1 k_2}:FI ktab 84 (zq2 n_0 m_1 k_2) [.val (rPtr zl) n_0,.val rAMove m_1,.val rAMove k_2] (fun out=>[.val rBool (out)]):=⟨fun out ho=>by
 delta zq2 at ho
 refine fn fun _ _=>?_
 refine run 4 ?_
 refine xal (zv:=.bool false) (es:=[vB (false)]) (by kernel_rfl) fun b1=>?_
 refine run 6 ?_
 refine xcl ho ?_
 intro y2 hy2 ho
 show SOps ..
 refine run 2 ?_
 obtain ⟨t12,ht12,ho⟩:=bnd ho
 refine zq37 (σ:=(Bool)) (τ:=(Bool)) (X:=(AMove)) (ins:=(fun x=>[.val rAMove (x)])) (altO (fun s g=>[(.ptr b1 0,.box [vB (s)])]) (fun t g=>[(.ptr b1 0,.box [vB (t)])])) (fun _=>none) (s0:=false) (r:=t12) [] [0] [] rfl (.t rfl) rfl rfl (by decide) (fun _=>rfl) (fun yv K hcb γ=>zy8 hcb ht12 γ) ?_ ?_
 ·clear ho ht12
  intro s8 g9 x3 r13 ho C
  refine run 1 ?_
  refine xal (zv:=.agg [.int .i64 0,.bool false]) (es:=[vI (0),vB (false)]) (by kernel_rfl) fun b10=>?_
  refine run 1 ?_
  refine s_st (zj (R:=rAMove) (a:=x3) 0 [7] (za (zb rfl) (za (zb rfl) ze rfl) rfl) rfl rfl ⟨rfl,trivial⟩) ?_
  refine s_nil (fun fr h s=>And.intro rfl (Exists.intro _ (Exists.intro _ (And.intro s (fun C=>?_)))))
  refine run 7 ?_
  refine wct ho (fun hq11 ho=>?_) fun hq11 ho=>?_
  ·refine run 4 ?_
   cases ho; exact r_ret (fun fr h s=>And.intro rfl (Exists.intro [] (s.pick [0] trivial rfl (by decide))))
  ·cases ho; exact za36 (fun fr h s=>And.intro rfl (Exists.intro [] (s.pick [0] trivial rfl (by decide))))
 ·clear ht12
  rcases t12 with b14 | b15
  ·have ho:=alt_l ho
   intro g16
   refine st_wk (Γ':=[(0,.val (rPtr zl) (n_0)),(1,.val rAMove (m_1)),(2,.val rAMove (k_2)),(4,.val (rPtr rAMove) (m_1)),(5,.val (rPtr rAMove) (k_2)),(6,.raw (.ptr b1 0)),(8,.val (rPtr zl) (n_0)),(9,.val rAMove (m_1)),(10,.val (rClo 120 [] [.val (rPtr (rPtr zl)) (y2.1),.val (rPtr rAMove) (y2.2)]) ())]) (L':=[(.ptr b1 0,.box [vB (b14)])]) [0] ⟨rfl,rfl,rfl,rfl,rfl,rfl,rfl,rfl,rfl,trivial⟩ rfl (by decide) ?_
   show ∀ fr h,St _ [(0,.val (rPtr zl) (n_0)),(1,.val rAMove (m_1)),(2,.val rAMove (k_2)),(4,.val (rPtr rAMove) (m_1)),(5,.val (rPtr rAMove) (k_2)),(6,.raw (.ptr b1 0)),(8,.val (rPtr zl) (n_0)),(9,.val rAMove (m_1)),(10,.val (rClo 120 [] [.val (rPtr (rPtr zl)) (y2.1),.val (rPtr rAMove) (y2.2)]) ())] [(.ptr b1 0,.box [vB (b14)])] fr h → _
   show SRun ..
   refine run 4 ?_
   cases ho; exact r_ret (zm (.inr rfl) (.b 0 U4 (zb rfl) rfl rfl .n) (by decide))
  ·have ho:=alt_r ho
   intro g17
   refine st_wk (Γ':=[(0,.val (rPtr zl) (n_0)),(1,.val rAMove (m_1)),(2,.val rAMove (k_2)),(4,.val (rPtr rAMove) (m_1)),(5,.val (rPtr rAMove) (k_2)),(6,.raw (.ptr b1 0)),(8,.val (rPtr zl) (n_0)),(9,.val rAMove (m_1)),(10,.val (rClo 120 [] [.val (rPtr (rPtr zl)) (y2.1),.val (rPtr rAMove) (y2.2)]) ())]) (L':=[(.ptr b1 0,.box [vB (b15)])]) [0] ⟨rfl,rfl,rfl,rfl,rfl,rfl,rfl,rfl,rfl,trivial⟩ rfl (by decide) ?_
   show ∀ fr h,St _ [(0,.val (rPtr zl) (n_0)),(1,.val rAMove (m_1)),(2,.val rAMove (k_2)),(4,.val (rPtr rAMove) (m_1)),(5,.val (rPtr rAMove) (k_2)),(6,.raw (.ptr b1 0)),(8,.val (rPtr zl) (n_0)),(9,.val rAMove (m_1)),(10,.val (rClo 120 [] [.val (rPtr (rPtr zl)) (y2.1),.val (rPtr rAMove) (y2.2)]) ())] [(.ptr b1 0,.box [vB (b15)])] fr h → _
   cases ho; exact id (zm (.inr rfl) (.b 0 U4 (zb rfl) rfl rfl .n) (by decide))⟩
instance i51 {n_0 l_1}:FI ktab 51 (zh4 n_0 l_1) [.val (rPtr zl) n_0,.val (rSlice rAMove) l_1] (fun out=>[.val rBool (out)]):=⟨fun out ho=>by
 delta zh4 at ho
 refine fn fun _ _=>?_
 refine run 12 ?_
 obtain ⟨t45,ht45,ho⟩:=bnd ho
 refine wlp ht45 [0,1,7,8] (fun s g=>([(9,vI (s))],[])) (altX (fun b=>(.exit 0,fun g=>([],[]))) (fun b=>(.ret,fun g=>([(4,vB (b))],[])))) [] SEL (pk []) NE (fun s22 g23 _ ho=>?_) fun g46=>?_
 ·refine run 5 ?_
  refine wct ho (fun hq24 ho=>?_) fun hq24 ho=>?_
  ·refine run 6 ?_
   obtain ⟨x25,hx25,ho⟩:=bnd ho
   refine run 2 ?_
   refine xal (zv:=.agg [.int .i64 0,.bool false]) (es:=[vI (0),vB (false)]) (by kernel_rfl) fun b26=>?_
   refine run 2 ?_
   refine s_st (zj (R:=rAMove) (a:=x25) 0 [6] (za (zb rfl) (za (zb rfl) ze rfl) rfl) rfl rfl ⟨rfl,trivial⟩) ?_
   refine run 5 ?_
   refine xcl ho ?_
   intro y37 hy37 ho
   show SOps ..
   refine run 2 ?_
   refine wbr ho (fun hb38 ho=>?_) fun hb38 ho=>?_
   ·refine run 15 ?_
    refine zh1 (.t rfl) (fun _=>?_) (fun hq=>by cases hq)
    exact w ho
   ·refine run 3 ?_
    refine wbr ho (fun hb40 ho=>?_) fun hb40 ho=>?_
    ·exact w ho
    ·refine run 12 ?_
     refine zh1 (.t rfl) (fun hq=>by cases hq) (fun _=>?_)
     exact w ho
  ·cases ho; exact zp1 (lf [] [])
 ·rcases t45 with b47 | b48
  ·have ho:=alt_l ho
   show SRun ..
   exact w ho
  ·have ho:=alt_r ho
   cases ho; exact id (zm (.inr rfl) (.v rfl .n) (by decide))⟩
instance i52 {n_0 l_1}:FI ktab 52 (zv2 n_0 l_1) [.val (rPtr zl) n_0,.val (rSlice rAMove) l_1] (fun out=>[.val (rInt .i64) (out)]):=⟨fun out ho=>by
 delta zv2 at ho
 refine fn fun _ _=>?_
 refine run 16 ?_
 obtain ⟨t13,ht13,ho⟩:=bnd ho
 refine wlp ht13 [0,8,9] (fun s g=>([(5,vI (s.1)),(10,vI (s.2))],[])) (fun b=>(.exit 0,fun g=>([(5,vI (b))],[]))) [] SEL (pk []) NE (fun s6 g7 _ ho=>?_) fun g14=>?_
 ·refine run 5 ?_
  refine wct ho (fun hq8 ho=>?_) fun hq8 ho=>?_
  ·refine run 5 ?_
   obtain ⟨x9,hx9,ho⟩:=bnd ho
   refine run 2 ?_
   refine xal (zv:=.agg [.int .i64 0,.bool false]) (es:=[vI (0),vB (false)]) (by kernel_rfl) fun b10=>?_
   refine run 1 ?_
   refine s_st (zj (R:=rAMove) (a:=x9) 0 [7] (za (zb rfl) (za (zb rfl) ze rfl) rfl) rfl rfl ⟨rfl,trivial⟩) ?_
   exact w ho
  ·cases ho; exact zp1 (lf [] [])
 ·show SRun ..
  exact w ho⟩
instance i26 {p_0 way_1}:FI ktab 26 (zd4 p_0 way_1) [.val rPlan p_0,.val (rSlice rAMove) way_1] (fun out=>[.val (rInt .i64) (out.1),.val (rInt .i64) (out.2)]):=⟨fun out ho=>by
 delta zd4 at ho
 refine fn fun _ _=>?_
 refine run 9 ?_
 refine xcl ho ?_
 intro y1 hy1 ho
 show SOps ..
 refine run 8 ?_
 obtain ⟨c5,hc5,ho⟩:=bnd ho
 refine wcx c5 [1,6] (fun t=>(.normal,fun _=>([(20,vB (t))],[]))) SEL ?_ fun _=>?_
 ·have ho:=hc5
  refine run 4 ?_
  refine wbr ho (fun hb6 ho=>?_) fun hb6 ho=>?_
  ·exact w ho
  ·refine run 2 ?_
   obtain ⟨p7,hp7,ho⟩:=bnd ho
   refine s_st (zo5 (n:=16) hp7 rfl) ?_
   exact w ho
 ·show SRun ..
  refine wct ho (fun hq9 ho=>?_) fun hq9 ho=>?_
  ·exact w ho
  ·refine run 5 ?_
   obtain ⟨p10,hp10,ho⟩:=bnd ho
   refine s_st (zo5 (n:=21) hp10 rfl) ?_
   exact w ho⟩
instance i77 {p_0 rail_1}:FI ktab 77 (zc4 p_0 rail_1) [.val rPlan p_0,vI rail_1] (fun out=>[.val (rInt .i64) (out.1),.val (rInt .i64) (out.2)]):=⟨fun out ho=>by
 delta zc4 at ho
 refine fn fun _ _=>?_
 refine run 9 ?_
 refine xcl ho ?_
 intro y1 hy1 ho
 show SOps ..
 refine run 8 ?_
 obtain ⟨c5,hc5,ho⟩:=bnd ho
 refine wcx c5 [1,6] (fun t=>(.normal,fun _=>([(21,vB (t))],[]))) SEL ?_ fun _=>?_
 ·have ho:=hc5
  refine run 4 ?_
  refine wbr ho (fun hb6 ho=>?_) fun hb6 ho=>?_
  ·exact w ho
  ·refine run 3 ?_
   obtain ⟨p7,hp7,ho⟩:=bnd ho
   refine s_st (zo5 (n:=16) hp7 rfl) ?_
   exact w ho
 ·show SRun ..
  refine wct ho (fun hq9 ho=>?_) fun hq9 ho=>?_
  ·exact w ho
  ·refine run 4 ?_
   obtain ⟨p10,hp10,ho⟩:=bnd ho
   refine s_st (zo5 (n:=22) hp10 rfl) ?_
   exact w ho⟩
instance i48 {p_0 p_1 p_2 p_3 p_4}:FI ktab 48 (zn6 p_0 p_1 p_2 p_3 p_4) [.val rPlan p_0,.val (rSlice rAMove) p_1,.val rTrain p_2,vI p_3,.val (rSlice (rInt .i64)) p_4] (fun out=>[.val (rPtrN zk) (out.1),.val rBool (out.2)]):=⟨fun out ho=>by
 delta zn6 at ho
 refine fn fun _ _=>?_
 refine run 4 ?_
 refine zy1 rfl (.n rfl) rfl (e:=.val (rPtrN zk) none) (fun z fr h s=>⟨_,rfl,zj7⟩) ?_
 refine run 6 ?_
 refine xcl ho ?_
 intro y1 hy1 ho
 show SOps ..
 refine run 10 ?_
 refine xcl ho ?_
 intro y2 hy2 ho
 show SOps ..
 refine run 8 ?_
 obtain ⟨c17,hc17,ho⟩:=bnd ho
 refine wcx c17 [1,4,5,12] (fun t=>(.normal,fun _=>([(66,vB (t))],[]))) SEL ?_ fun _=>?_
 ·exact w hc17
 ·show SRun ..
  refine wct ho (fun hq25 ho=>?_) fun hq25 ho=>?_
  ·refine run 2 ?_
   refine zy1 rfl (.n rfl) rfl (e:=.val (rPtrN zk) none) (fun z fr h s=>⟨_,rfl,zj7⟩) ?_
   exact w ho
  ·refine run 7 ?_
   obtain ⟨t40,ht40,ho⟩:=bnd ho
   refine wlp ht40 [1,4,5,12] (fun s g=>([(16,vI (s))],[])) (altX (fun b=>(.exit 0,fun g=>([],[]))) (fun b=>(.ret,fun g=>([(10,.val (rPtrN zk) (b.1)),(11,vB (b.2))],[])))) [] SEL (pk []) NE (fun s32 g33 _ ho=>?_) fun g41=>?_
   ·refine run 8 ?_
    refine wct ho (fun hq34 ho=>?_) fun hq34 ho=>?_
    ·refine run 7 ?_
     obtain ⟨x37,hx37,ho⟩:=bnd ho
     refine run 5 ?_
     obtain ⟨x38,hx38,ho⟩:=bnd ho
     refine run 4 ?_
     refine wct ho (fun hq39 ho=>?_) fun hq39 ho=>?_
     ·refine run 2 ?_
      refine zy1 rfl (.n rfl) rfl (e:=.val (rPtrN zk) none) (fun z fr h s=>⟨_,rfl,zj7⟩) ?_
      exact w ho
     ·exact w ho
    ·cases ho; exact zp1 (lf [] [])
   ·rcases t40 with b42 | b43
    ·have ho:=alt_l ho
     show SRun ..
     refine run 5 ?_
     obtain ⟨p44,hp44,ho⟩:=bnd ho
     refine s_st (zo5 (n:=83) hp44 rfl) ?_
     refine zl23 (R:=ze16) Bq241 (.n rfl) rfl rfl rfl (.p (.t rfl) rfl (.p (.t rfl) rfl (.z (fun _=>znilN) (.z (fun _=>znilN) (.z (fun _=>znilN) (.p (.t rfl) rfl (.n rfl))))))) ?_
     refine xbo fun b45=>?_
     refine s_st (zt10 (q:=2) 0 rfl rfl rfl) ?_
     refine s_st (zj1 (rInt .i64)) ?_
     refine s_st (zt10 (q:=3) 1 rfl rfl rfl) ?_
     refine s_st (zj1 (rInt .i64)) ?_
     refine s_st (zt10 (q:=4) 2 rfl rfl rfl) ?_
     refine s_st (zj1 (rInt .i64)) ?_
     refine run 14 ?_
     obtain ⟨t144,ht144,ho⟩:=bnd ho
     refine wlp ht144 [5,17,88,89] (fun s g=>([(18,vI (s.1)),(90,vI (s.2.1))],[(.ptr b45 0,.box [.val (rPtr zi) (p44),.val (rSlice rAMove) (p_1),.raw ((gh g 2)),.raw ((gh g 1)),.raw ((gh g 0)),.val (rSlice (rInt .i64)) (p_4)]),((gh g 0),.row (rInt .i64) (s.2.2.1)),((gh g 1),.row (rInt .i64) (s.2.2.2.1)),((gh g 2),.row (rInt .i64) (s.2.2.2.2))])) (altX (fun b=>(.exit 2,fun g=>([],[(.ptr b45 0,.box [.val (rPtr zi) (p44),.val (rSlice rAMove) (p_1),.raw ((gh g 0)),.raw ((gh g 1)),.raw ((gh g 2)),.val (rSlice (rInt .i64)) (p_4)]),((gh g 0),.row (rInt .i64) (b.1)),((gh g 1),.row (rInt .i64) (b.2.1)),((gh g 2),.row (rInt .i64) (b.2.2))]))) (fun b=>(.ret,fun g=>([(10,.val (rPtrN zk) (b.1)),(11,vB (b.2.1))],[])))) [.nilslice,.nilslice,.nilslice] SEL (pk [3,0,1,2]) NE (fun s110 g111 _ ho=>?_) fun g145=>?_
     ·refine run 5 ?_
      refine wct ho (fun hq112 ho=>?_) fun hq112 ho=>?_
      ·refine run 5 ?_
       obtain ⟨x113,hx113,ho⟩:=bnd ho
       refine run 2 ?_
       refine xal (zv:=.agg [.int .i64 0,.bool false]) (es:=[vI (0),vB (false)]) (by kernel_rfl) fun b114=>?_
       refine run 1 ?_
       refine s_st (zj (R:=rAMove) (a:=x113) 0 [20] (za (zb rfl) (za (zb rfl) ze rfl) rfl) rfl rfl ⟨rfl,trivial⟩) ?_
       refine run 6 ?_
       refine xcl ho ?_
       intro y115 hy115 ho
       show SOps ..
       refine run 12 ?_
       refine wct ho (fun hq116 ho=>?_) fun hq116 ho=>?_
       ·refine run 2 ?_
        refine zy1 rfl (.n rfl) rfl (e:=.val (rPtrN zk) none) (fun z fr h s=>⟨_,rfl,zj7⟩) ?_
        refine run 2 ?_
        cases ho; exact r_ret (lf [(gh g111 2),(gh g111 1),(gh g111 0)] [])
       ·refine run 14 ?_
        obtain ⟨x117,hx117,ho⟩:=bnd ho
        refine run 2 ?_
        refine xal (zv:=.agg [.int .i64 0,.int .i64 0,.nilslice,.int .i64 0,.int .i64 0]) (es:=[vI (0),vI (0),.val (rSlice rSpot) ([]),vI (0),vI (0)]) (by kernel_rfl) fun b118=>?_
        refine run 1 ?_
        refine s_st (zj (R:=rRail) (a:=x117) 0 [23] (za (zb rfl) (za (zb rfl) (za (zb rfl) (za (zb rfl) (za (zb rfl) ze rfl) rfl) rfl) rfl) rfl) rfl rfl ⟨rfl,trivial⟩) ?_
        refine run 13 ?_
        refine wct ho (fun hq119 ho=>?_) fun hq119 ho=>?_
        ·refine run 5 ?_
         refine za3 [6,13,21,1000017,2000023] (by kernel_rfl) ?_ (hdi:=rdists rfl (rowns rfl) (.c (.o (j:=0) rfl rfl) (.c (.q rfl) .n)) rfl)
         refine run 9 ?_
         obtain ⟨x126,hx126,ho⟩:=bnd ho
         refine s_app 3 S22 Y3 hx126 (.n rfl) rfl rfl rfl rfl rfl (.t rfl) rfl (.t rfl) rfl (hra:=roffs rfl (.o 0 rfl rfl (by decide) (.q rfl .n))) ?_
         intro v127
         refine run 7 ?_
         obtain ⟨x128,hx128,ho⟩:=bnd ho
         refine s_app 3 S22 Y3 hx128 (.n rfl) rfl rfl rfl rfl rfl (.t rfl) rfl (.t rfl) rfl (hra:=roffs rfl (.o 1 rfl rfl (by decide) (.q rfl .n))) ?_
         intro v129
         refine run 6 ?_
         obtain ⟨x130,hx130,ho⟩:=bnd ho
         refine s_app 3 S22 Y3 hx130 (.n rfl) rfl rfl rfl rfl rfl (.t rfl) rfl (.t rfl) rfl (hra:=roffs rfl (.o 2 rfl rfl (by decide) (.q rfl .n))) ?_
         intro v131
         refine run 2 ?_
         refine zn8 3 2 (U22).sz rfl rfl (by exact Nat.le_of_ble_eq_true rfl) (.n rfl) rfl rfl (.t rfl) (.t rfl) (by rfl) ?_
         refine run 2 ?_
         refine zn8 3 1 (U22).sz rfl rfl (by exact Nat.le_of_ble_eq_true rfl) (.n rfl) rfl rfl (.t rfl) (.t rfl) (by rfl) ?_
         refine run 2 ?_
         refine zn8 3 0 (U22).sz rfl rfl (by exact Nat.le_of_ble_eq_true rfl) (.n rfl) rfl rfl (.t rfl) (.t rfl) (by rfl) ?_
         refine run 4 ?_
         cases ho; exact s_nil (lf [v131,v129,v127] [3,0,1,2])
        ·refine run 1 ?_
         refine za3 [6,13,21,1000017,2000023] (by kernel_rfl) ?_ (hdi:=rdists rfl (rowns rfl) (.c (.o (j:=0) rfl rfl) (.c (.q rfl) .n)) rfl)
         refine run 9 ?_
         obtain ⟨x138,hx138,ho⟩:=bnd ho
         refine s_app 3 S22 Y3 hx138 (.n rfl) rfl rfl rfl rfl rfl (.t rfl) rfl (.t rfl) rfl (hra:=roffs rfl (.o 0 rfl rfl (by decide) (.q rfl .n))) ?_
         intro v139
         refine run 7 ?_
         obtain ⟨x140,hx140,ho⟩:=bnd ho
         refine s_app 3 S22 Y3 hx140 (.n rfl) rfl rfl rfl rfl rfl (.t rfl) rfl (.t rfl) rfl (hra:=roffs rfl (.o 1 rfl rfl (by decide) (.q rfl .n))) ?_
         intro v141
         refine run 6 ?_
         obtain ⟨x142,hx142,ho⟩:=bnd ho
         refine s_app 3 S22 Y3 hx142 (.n rfl) rfl rfl rfl rfl rfl (.t rfl) rfl (.t rfl) rfl (hra:=roffs rfl (.o 2 rfl rfl (by decide) (.q rfl .n))) ?_
         intro v143
         refine run 2 ?_
         refine zn8 3 2 (U22).sz rfl rfl (by exact Nat.le_of_ble_eq_true rfl) (.n rfl) rfl rfl (.t rfl) (.t rfl) (by rfl) ?_
         refine run 2 ?_
         refine zn8 3 1 (U22).sz rfl rfl (by exact Nat.le_of_ble_eq_true rfl) (.n rfl) rfl rfl (.t rfl) (.t rfl) (by rfl) ?_
         refine run 2 ?_
         refine zn8 3 0 (U22).sz rfl rfl (by exact Nat.le_of_ble_eq_true rfl) (.n rfl) rfl rfl (.t rfl) (.t rfl) (by rfl) ?_
         refine run 4 ?_
         cases ho; exact s_nil (lf [v143,v141,v139] [3,0,1,2])
      ·cases ho; exact zp1 (lf [(gh g111 2),(gh g111 1),(gh g111 0)] [0,3,2,1])
     ·rcases t144 with b146 | b147
      ·have ho:=alt_l ho
       show SRun ..
       refine run 6 ?_
       cases ho
       refine r_st (zs10 1 0 (q:=2) [] rfl rfl rfl rfl (by rfl) trivial) ?_
       refine r_st (zs10 1 0 (q:=3) [] rfl rfl rfl rfl (by rfl) trivial) ?_
       refine r_st (zs10 1 0 (q:=4) [] rfl rfl rfl rfl (by rfl) trivial) ?_
       refine r_st (zj (R:=zk) (a:=(p44,p_1,b146.1,b146.2.1,b146.2.2,p_4,())) 0 [17,150,10] (za (zb rfl) (za (zb rfl) (za (zb rfl) (za (zb rfl) (za (zb rfl) (za (zb rfl) ze rfl) rfl) rfl) rfl) rfl) rfl) rfl rfl ⟨rfl,rfl,rfl,trivial⟩) ?_
       refine r_st (zq23 (n:=10) rfl) ?_
       exact r_ret (zm (.inr rfl) (.v rfl (.v rfl .n)) (by decide))
      ·have ho:=alt_r ho
       cases ho; exact id (zm (.inr rfl) (.v rfl (.v rfl .n)) (by decide))
    ·have ho:=alt_r ho
     cases ho; exact id (zm (.inr rfl) (.v rfl (.v rfl .n)) (by decide))⟩
instance i128 {x_0}:FI ktab 128 (zm4 x_0) [vI x_0] (fun out=>[.val rBool (out)]):=⟨fun out ho=>by
 delta zm4 at ho
 refine fn fun _ _=>?_
 exact w ho⟩
instance i112 {x_0 target_1}:FI ktab 112 (zr x_0 target_1) [.val (rSlice (rInt .i64)) x_0,vI target_1] (fun out=>[.val (rInt .i64) (out.1),.val rBool (out.2)]):=⟨fun out ho=>by
 delta zr at ho
 refine fn fun _ _=>?_
 refine run 19 ?_
 obtain ⟨t13,ht13,ho⟩:=bnd ho
 refine wlp ht13 [0,1,6] (fun s g=>([(7,vI (s.1)),(8,vI (s.2))],[])) (fun b=>(.exit 0,fun g=>([(7,vI (b))],[]))) [] SEL (pk []) NE (fun s6 g7 _ ho=>?_) fun g14=>?_
 ·exact w ho
 ·show SRun ..
  refine run 1 ?_
  obtain ⟨c22,hc22,ho⟩:=bnd ho
  refine wcx c22 [] (fun t=>(.normal,fun _=>([(4,vI (t.1)),(5,vB (t.2))],[]))) SEL ?_ fun _=>?_
  ·exact w hc22
  ·show SRun ..
   cases ho; exact r_ret (zm (.inr rfl) (.v rfl (.v rfl .n)) (by decide))⟩
instance i98 {r_0 x_1}:FI ktab 98 (zy r_0 x_1) [.val (rPtr zk) r_0,.val rMotionState x_1] (fun out=>[.val (rInt .i64) (out)]):=⟨fun out ho=>by
 delta zy at ho
 refine fn fun _ _=>?_
 exact w ho⟩
instance i129 {p_0 p_1}:FI ktab 129 (zn4 p_0 p_1) [.val (rPtr zk) p_0,.val rMotionState p_1] (fun out=>[.val (rInt .i64) (out)]):=⟨fun out ho=>by
 delta zn4 at ho
 refine fn fun _ _=>?_
 refine run 12 ?_
 refine xcl ho ?_
 intro y2 hy2 ho
 show SOps ..
 refine run 36 ?_
 refine xcl ho ?_
 intro y3 hy3 ho
 show SOps ..
 refine run 8 ?_
 obtain ⟨t14,ht14,ho⟩:=bnd ho
 refine wlp ht14 [0,5] (fun s g=>([(7,vI (s.1)),(8,vI (s.2))],[])) (fun b=>(.exit 0,fun g=>([(7,vI (b))],[]))) [] SEL (pk []) NE (fun s8 g9 _ ho=>?_) fun g15=>?_
 ·exact w ho
 ·show SRun ..
  exact w ho⟩
instance i113 {r_0 x_1 stop_2}:FI ktab 113 (zn3 r_0 x_1 stop_2) [.val (rPtr zk) r_0,.val rMotionState x_1,vI stop_2] (fun out=>[.val rBool (out)]):=⟨fun out ho=>by
 delta zn3 at ho
 refine fn fun _ _=>?_
 refine run 6 ?_
 obtain ⟨c9,hc9,ho⟩:=bnd ho
 refine wcx c9 [] (fun t=>(.normal,fun _=>([(6,vB (t))],[]))) SEL ?_ fun _=>?_
 ·exact w hc9
 ·show SRun ..
  cases ho; exact r_ret (zm (.inr rfl) (.v rfl .n) (by decide))⟩
instance i99 {r_0 x_1 stop_2}:FI ktab 99 (ze4 r_0 x_1 stop_2) [.val (rPtr zk) r_0,.val rMotionState x_1,vI stop_2] (fun out=>[.val rBool (out)]):=⟨fun out ho=>by
 delta ze4 at ho
 refine fn fun _ _=>?_
 refine run 5 ?_
 refine xal (zv:=.bool false) (es:=[vB (false)]) (by kernel_rfl) fun b1=>?_
 refine run 7 ?_
 refine xcl ho ?_
 intro y2 hy2 ho
 show SOps ..
 refine run 2 ?_
 refine wct ho (fun hq3 ho=>?_) fun hq3 ho=>?_
 ·refine run 4 ?_
  cases ho; exact r_ret (zm (.inr rfl) (.b 0 U4 (zb rfl) rfl rfl .n) (by decide))
 ·refine run 4 ?_
  refine xal (zv:=.agg [.int .i64 0,.int .i64 0]) (es:=[vI (0),vI (0)]) (by kernel_rfl) fun b4=>?_
  refine run 11 ?_
  refine zt15 (X:=(MotionState)) (Y:=(Int)) (fun x=>[.val rMotionState (x)]) (fun y=>[.val (rInt .i64) (y)]) (f:=(fun x=>zy r_0 x)) (fun x y hf=>i98.ok _ hf) rfl (.n rfl) rfl rfl (.c (.t rfl) .n) .n ?_
  obtain ⟨y7,hy7,ho⟩:=bnd ho
  refine zg30 (zj6 hy7) rfl (.n rfl) rfl rfl rfl .f (.c (.t rfl) (.c (.t rfl) (.c (.t rfl) .n))) ?_
  intro b8
  refine run 2 ?_
  obtain ⟨t21,ht21,ho⟩:=bnd ho
  obtain ⟨t21,t21b⟩:=t21
  refine zx24 (σ:=(Int × Int)) (τ:=(Int × Int)) (X:=(MotionState)) (ins:=(fun x=>[.val rMotionState (x)])) (altO (fun s g=>[(.ptr b4 0,.box [vI (s.1),vI (s.2)]),(.ptr b1 0,.box [vB (false)])]) (fun t g=>[(.ptr b4 0,.box [vI (t.1),vI (t.2)]),(.ptr b1 0,.box [vB (false)])])) (fun _=>none) (s0:=(x_1.1,x_1.2.1)) (r:=t21) [] [1,2] [0] [] rfl (.t rfl) rfl rfl rfl (by decide) (fun _=>rfl) (fun yv K hcb γ=>zp23 (zn21 (zs5 hcb ht21 b8 γ))) ?_ ?_
  ·clear ho ht21
   intro s16 g17 x9 r22 ho C
   refine run 1 ?_
   refine xal (zv:=.agg [.int .i64 0,.int .i64 0]) (es:=[vI (0),vI (0)]) (by kernel_rfl) fun b18=>?_
   refine run 1 ?_
   refine s_st (zj (R:=rMotionState) (a:=x9) 0 [8] (za (zb rfl) (za (zb rfl) ze rfl) rfl) rfl rfl ⟨rfl,trivial⟩) ?_
   refine s_nil (fun fr h s=>And.intro rfl (Exists.intro _ (Exists.intro _ (And.intro s (fun C=>?_)))))
   refine run 7 ?_
   refine xcl ho ?_
   intro y19 hy19 ho
   show SOps ..
   refine run 2 ?_
   refine wct ho (fun hq20 ho=>?_) fun hq20 ho=>?_
   ·refine run 4 ?_
    cases ho; exact r_ret (fun fr h s=>And.intro rfl (Exists.intro [] (s.pick [0,1] trivial rfl (by decide))))
   ·refine run 4 ?_
    cases ho; exact s_nil (fun fr h s=>And.intro rfl (Exists.intro [] (s.pick [0,1] trivial rfl (by decide))))
  ·clear ht21
   rcases t21 with b23 | b24
   ·have ho:=alt_l ho
    intro g25
    refine st_wk (Γ':=[(0,.val (rPtr zk) (r_0)),(1,.val rMotionState (x_1)),(2,vI (stop_2)),(3,.val (rPtr (rPtr zk)) (r_0)),(4,.val (rPtr rMotionState) (x_1)),(5,.val (rPtr (rInt .i64)) (stop_2)),(6,.raw (.ptr b1 0)),(7,.raw (.ptr b4 0)),(9,.val (rPtr zk) (r_0)),(10,.val rMotionState (x_1)),(11,vI (stop_2)),(12,vB (y2)),(13,vB ((!y2))),(14,.val rMotionState (x_1)),(15,.val (rPtr zk) (r_0)),(16,.val (rPtr zk) (r_0)),(17,.val (rPtr (rPtr zi)) (r_0.1)),(18,.val (rPtr zi) (r_0.1)),(19,.val rMotionState (x_1)),(20,.val (rPtr zk) (r_0)),(21,.val (rFn ktab (MotionState) (Int) (fun x=>[.val rMotionState (x)]) (fun y=>[.val (rInt .i64) (y)])) ((fun x=>zy r_0 x)))]) (L':=[(.ptr b4 0,.box [vI (b23.1),vI (b23.2)]),(.ptr b1 0,.box [vB (false)])]) [0,1] ⟨rfl,rfl,rfl,rfl,rfl,rfl,rfl,rfl,rfl,rfl,rfl,rfl,rfl,rfl,rfl,rfl,rfl,rfl,rfl,rfl,rfl,trivial⟩ rfl (by decide) ?_
    show ∀ fr h,St _ [(0,.val (rPtr zk) (r_0)),(1,.val rMotionState (x_1)),(2,vI (stop_2)),(3,.val (rPtr (rPtr zk)) (r_0)),(4,.val (rPtr rMotionState) (x_1)),(5,.val (rPtr (rInt .i64)) (stop_2)),(6,.raw (.ptr b1 0)),(7,.raw (.ptr b4 0)),(9,.val (rPtr zk) (r_0)),(10,.val rMotionState (x_1)),(11,vI (stop_2)),(12,vB (y2)),(13,vB ((!y2))),(14,.val rMotionState (x_1)),(15,.val (rPtr zk) (r_0)),(16,.val (rPtr zk) (r_0)),(17,.val (rPtr (rPtr zi)) (r_0.1)),(18,.val (rPtr zi) (r_0.1)),(19,.val rMotionState (x_1)),(20,.val (rPtr zk) (r_0)),(21,.val (rFn ktab (MotionState) (Int) (fun x=>[.val rMotionState (x)]) (fun y=>[.val (rInt .i64) (y)])) ((fun x=>zy r_0 x)))] [(.ptr b4 0,.box [vI (b23.1),vI (b23.2)]),(.ptr b1 0,.box [vB (false)])] fr h → _
    show SRun ..
    refine run 7 ?_
    cases ho; exact r_ret (zm (.inr rfl) (.b 1 U4 (zb rfl) rfl rfl .n) (by decide))
   ·have ho:=alt_r ho
    intro g26
    refine st_wk (Γ':=[(0,.val (rPtr zk) (r_0)),(1,.val rMotionState (x_1)),(2,vI (stop_2)),(3,.val (rPtr (rPtr zk)) (r_0)),(4,.val (rPtr rMotionState) (x_1)),(5,.val (rPtr (rInt .i64)) (stop_2)),(6,.raw (.ptr b1 0)),(7,.raw (.ptr b4 0)),(9,.val (rPtr zk) (r_0)),(10,.val rMotionState (x_1)),(11,vI (stop_2)),(12,vB (y2)),(13,vB ((!y2))),(14,.val rMotionState (x_1)),(15,.val (rPtr zk) (r_0)),(16,.val (rPtr zk) (r_0)),(17,.val (rPtr (rPtr zi)) (r_0.1)),(18,.val (rPtr zi) (r_0.1)),(19,.val rMotionState (x_1)),(20,.val (rPtr zk) (r_0)),(21,.val (rFn ktab (MotionState) (Int) (fun x=>[.val rMotionState (x)]) (fun y=>[.val (rInt .i64) (y)])) ((fun x=>zy r_0 x)))]) (L':=[(.ptr b4 0,.box [vI (b24.1),vI (b24.2)]),(.ptr b1 0,.box [vB (false)])]) [0,1] ⟨rfl,rfl,rfl,rfl,rfl,rfl,rfl,rfl,rfl,rfl,rfl,rfl,rfl,rfl,rfl,rfl,rfl,rfl,rfl,rfl,rfl,trivial⟩ rfl (by decide) ?_
    show ∀ fr h,St _ [(0,.val (rPtr zk) (r_0)),(1,.val rMotionState (x_1)),(2,vI (stop_2)),(3,.val (rPtr (rPtr zk)) (r_0)),(4,.val (rPtr rMotionState) (x_1)),(5,.val (rPtr (rInt .i64)) (stop_2)),(6,.raw (.ptr b1 0)),(7,.raw (.ptr b4 0)),(9,.val (rPtr zk) (r_0)),(10,.val rMotionState (x_1)),(11,vI (stop_2)),(12,vB (y2)),(13,vB ((!y2))),(14,.val rMotionState (x_1)),(15,.val (rPtr zk) (r_0)),(16,.val (rPtr zk) (r_0)),(17,.val (rPtr (rPtr zi)) (r_0.1)),(18,.val (rPtr zi) (r_0.1)),(19,.val rMotionState (x_1)),(20,.val (rPtr zk) (r_0)),(21,.val (rFn ktab (MotionState) (Int) (fun x=>[.val rMotionState (x)]) (fun y=>[.val (rInt .i64) (y)])) ((fun x=>zy r_0 x)))] [(.ptr b4 0,.box [vI (b24.1),vI (b24.2)]),(.ptr b1 0,.box [vB (false)])] fr h → _
    cases ho; exact id (zm (.inr rfl) (.b 1 U4 (zb rfl) rfl rfl .n) (by decide))⟩
instance i78 {r_0 x_1 stop_2}:FI ktab 78 (zl2 r_0 x_1 stop_2) [.val (rPtr zk) r_0,.val rMotionState x_1,vI stop_2] (fun out=>[.val zt (out.1),.val rBool (out.2)]):=⟨fun out ho=>by
 delta zl2 at ho
 refine fn fun _ _=>?_
 refine run 3 ?_
 refine xal (zv:=.agg [.int .i64 0,.int .i64 0,.int .i64 0,.int .i64 0,.int .i64 0,.int .i64 0,.int .i64 0,.int .i64 0,.int .i64 0,.int .i64 0]) (es:=[vI (0),vI (0),vI (0),vI (0),vI (0),vI (0),vI (0),vI (0),vI (0),vI (0)]) (by kernel_rfl) fun b1=>?_
 refine run 2 ?_
 refine zl37 (by exact zo33) ?_
 refine run 4 ?_
 refine xcl ho ?_
 intro y2 hy2 ho
 show SOps ..
 refine run 4 ?_
 refine xal (zv:=.agg [.int .i64 0,.int .i64 0,.int .i64 0,.int .i64 0,.int .i64 0,.int .i64 0,.int .i64 0,.int .i64 0,.int .i64 0,.int .i64 0]) (es:=[vI (0),vI (0),vI (0),vI (0),vI (0),vI (0),vI (0),vI (0),vI (0),vI (0)]) (by kernel_rfl) fun b3=>?_
 refine run 13 ?_
 obtain ⟨t39,ht39,ho⟩:=bnd ho
 refine wlp ht39 [0,2,4,6,8,9] (fun s g=>([(10,vB (s.1)),(17,vI (s.2.1))],[(.ptr b3 0,.box [vI (s.2.2.1),vI (s.2.2.2.1),vI (s.2.2.2.2.1),vI (s.2.2.2.2.2.1),vI (s.2.2.2.2.2.2.1),vI (s.2.2.2.2.2.2.2.1),vI (s.2.2.2.2.2.2.2.2.1),vI (s.2.2.2.2.2.2.2.2.2.1),vI (s.2.2.2.2.2.2.2.2.2.2.1),vI (s.2.2.2.2.2.2.2.2.2.2.2)]),(.ptr b1 0,.box [vI (0),vI (0),vI (0),vI (0),vI (0),vI (0),vI (0),vI (0),vI (0),vI (0)])])) (fun b=>(.exit 0,fun g=>([(10,vB (b.1))],[(.ptr b3 0,.box [vI (b.2.1),vI (b.2.2.1),vI (b.2.2.2.1),vI (b.2.2.2.2.1),vI (b.2.2.2.2.2.1),vI (b.2.2.2.2.2.2.1),vI (b.2.2.2.2.2.2.2.1),vI (b.2.2.2.2.2.2.2.2.1),vI (b.2.2.2.2.2.2.2.2.2.1),vI (b.2.2.2.2.2.2.2.2.2.2)]),(.ptr b1 0,.box [vI (0),vI (0),vI (0),vI (0),vI (0),vI (0),vI (0),vI (0),vI (0),vI (0)])]))) [] SEL (pk [0,1]) NE (fun s26 g27 _ ho=>?_) fun g40=>?_
 ·refine run 5 ?_
  refine wct ho (fun hq28 ho=>?_) fun hq28 ho=>?_
  ·refine run 18 ?_
   refine xcl ho ?_
   intro y31 hy31 ho
   show SOps ..
   refine run 3 ?_
   refine xal (zv:=.agg [.int .i64 0,.int .i64 0,.int .i64 0,.int .i64 0,.int .i64 0,.int .i64 0,.int .i64 0,.int .i64 0,.int .i64 0,.int .i64 0]) (es:=[vI (0),vI (0),vI (0),vI (0),vI (0),vI (0),vI (0),vI (0),vI (0),vI (0)]) (by kernel_rfl) fun b32=>?_
   refine run 1 ?_
   refine s_st (zj (R:=zt) (a:=y31.1) 0 [12] (za (za (zb rfl) (za (zb rfl) ze rfl) rfl) (za (za (zb rfl) (za (zb rfl) (za (zb rfl) (za (zb rfl) (za (zb rfl) (za (zb rfl) ze rfl) rfl) rfl) rfl) rfl) rfl) (za (zb rfl) (za (zb rfl) ze rfl) rfl) rfl) rfl) rfl rfl ⟨rfl,trivial⟩) ?_
   refine run 6 ?_
   refine wbr ho (fun hb35 ho=>?_) fun hb35 ho=>?_
   ·refine run 4 ?_
    refine xcl ho ?_
    intro y36 hy36 ho
    show SOps ..
    refine run 2 ?_
    refine wct ho (fun hq37 ho=>?_) fun hq37 ho=>?_
    ·refine run 6 ?_
     cases ho; exact zp1 (lf [] [0,1])
    ·refine run 4 ?_
     cases ho; exact s_nil (lf [] [0,1])
   ·refine run 7 ?_
    refine zh1 (.t rfl) (fun hq=>by cases hq) (fun _=>?_)
    refine run 4 ?_
    cases ho; exact s_nil (lf [] [0,1])
  ·cases ho; exact zp1 (lf [] [0,1])
 ·show SRun ..
  refine run 2 ?_
  refine zz (R:=zt) (a:=((t39.2.1,t39.2.2.1,()),(t39.2.2.2.1,t39.2.2.2.2.1,t39.2.2.2.2.2.1,t39.2.2.2.2.2.2.1,t39.2.2.2.2.2.2.2.1,t39.2.2.2.2.2.2.2.2.1,()),t39.2.2.2.2.2.2.2.2.2.1,t39.2.2.2.2.2.2.2.2.2.2,())) 0 (fun _ h=>by cases h <;> rfl) U89 (za (za (zb rfl) (za (zb rfl) ze rfl) rfl) (za (za (zb rfl) (za (zb rfl) (za (zb rfl) (za (zb rfl) (za (zb rfl) (za (zb rfl) ze rfl) rfl) rfl) rfl) rfl) rfl) (za (zb rfl) (za (zb rfl) ze rfl) rfl) rfl) rfl) (.n rfl) rfl rfl (.t rfl) rfl ?_
  refine run 4 ?_
  cases ho; exact r_ret (zm (.inr rfl) (.b 1 U89 (za (za (zb rfl) (za (zb rfl) ze rfl) rfl) (za (za (zb rfl) (za (zb rfl) (za (zb rfl) (za (zb rfl) (za (zb rfl) (za (zb rfl) ze rfl) rfl) rfl) rfl) rfl) rfl) (za (zb rfl) (za (zb rfl) ze rfl) rfl) rfl) rfl) rfl rfl (.v rfl .n)) (by decide))⟩
instance i79 {l_0}:FI ktab 79 (zi5 l_0) [.val (rSlice rMotionLedger) l_0] (fun out=>[.val rMotionLedger (out)]):=⟨fun out ho=>by
 delta zi5 at ho
 refine fn fun _ _=>?_
 refine run 2 ?_
 refine xal (zv:=.agg [.int .i64 0,.int .i64 0,.int .i64 0,.int .i64 0,.int .i64 0,.int .i64 0]) (es:=[vI (0),vI (0),vI (0),vI (0),vI (0),vI (0)]) (by kernel_rfl) fun b1=>?_
 refine run 3 ?_
 refine xal (zv:=.agg [.int .i64 0,.int .i64 0,.int .i64 0,.int .i64 0,.int .i64 0,.int .i64 0]) (es:=[vI (0),vI (0),vI (0),vI (0),vI (0),vI (0)]) (by kernel_rfl) fun b2=>?_
 refine run 9 ?_
 obtain ⟨t14,ht14,ho⟩:=bnd ho
 refine wlp ht14 [2,3,6,7] (fun s g=>([(8,vI (s.1))],[(.ptr b2 0,.box [vI (s.2.1),vI (s.2.2.1),vI (s.2.2.2.1),vI (s.2.2.2.2.1),vI (s.2.2.2.2.2.1),vI (s.2.2.2.2.2.2)]),(.ptr b1 0,.box [vI (0),vI (0),vI (0),vI (0),vI (0),vI (0)])])) (fun b=>(.exit 0,fun g=>([],[(.ptr b2 0,.box [vI (b.1),vI (b.2.1),vI (b.2.2.1),vI (b.2.2.2.1),vI (b.2.2.2.2.1),vI (b.2.2.2.2.2)]),(.ptr b1 0,.box [vI (0),vI (0),vI (0),vI (0),vI (0),vI (0)])]))) [] SEL (pk [0,1]) NE (fun s9 g10 _ ho=>?_) fun g15=>?_
 ·refine run 5 ?_
  refine wct ho (fun hq11 ho=>?_) fun hq11 ho=>?_
  ·refine run 5 ?_
   obtain ⟨x12,hx12,ho⟩:=bnd ho
   refine run 2 ?_
   refine xal (zv:=.agg [.int .i64 0,.int .i64 0,.int .i64 0,.int .i64 0,.int .i64 0,.int .i64 0]) (es:=[vI (0),vI (0),vI (0),vI (0),vI (0),vI (0)]) (by kernel_rfl) fun b13=>?_
   refine run 1 ?_
   refine s_st (zj (R:=rMotionLedger) (a:=x12) 0 [5] (za (zb rfl) (za (zb rfl) (za (zb rfl) (za (zb rfl) (za (zb rfl) (za (zb rfl) ze rfl) rfl) rfl) rfl) rfl) rfl) rfl rfl ⟨rfl,trivial⟩) ?_
   refine run 63 ?_
   cases ho; exact s_nil (lf [] [0,1])
  ·cases ho; exact zp1 (lf [] [0,1])
 ·show SRun ..
  refine run 2 ?_
  refine zz (R:=rMotionLedger) (a:=(t14.1,t14.2.1,t14.2.2.1,t14.2.2.2.1,t14.2.2.2.2.1,t14.2.2.2.2.2,())) 0 (fun _ h=>by cases h <;> rfl) U31 (za (zb rfl) (za (zb rfl) (za (zb rfl) (za (zb rfl) (za (zb rfl) (za (zb rfl) ze rfl) rfl) rfl) rfl) rfl) rfl) (.n rfl) rfl rfl (.t rfl) rfl ?_
  refine run 2 ?_
  cases ho; exact r_ret (zm (.inr rfl) (.b 1 U31 (za (zb rfl) (za (zb rfl) (za (zb rfl) (za (zb rfl) (za (zb rfl) (za (zb rfl) ze rfl) rfl) rfl) rfl) rfl) rfl) rfl rfl .n) (by decide))⟩
instance i49 {p_0 p_1 p_2}:FI ktab 49 (zf3 p_0 p_1 p_2) [.val (rPtr zk) p_0,.val rMotionState p_1,vI p_2] (fun out=>[.val rLeg (out.1),.val rMotionState (out.2.1),.val rBool (out.2.2)]):=⟨fun out ho=>by
 delta zf3 at ho
 refine fn fun _ _=>?_
 refine run 2 ?_
 refine xbo fun b1=>?_
 refine xal (zv:=.agg [.int .i64 0,.int .i64 0,.int .i64 0,.int .i64 0,.int .i64 0,.int .i64 0,.int .i64 0,.int .i64 0,.int .i64 0,.int .i64 0]) (es:=[vI (0),vI (0),vI (0),vI (0),vI (0),vI (0),vI (0),vI (0),vI (0),vI (0)]) (by kernel_rfl) fun b2=>?_
 refine xal (zv:=.agg [.int .i64 0,.int .i64 0]) (es:=[vI (0),vI (0)]) (by kernel_rfl) fun b3=>?_
 refine run 4 ?_
 refine xal (zv:=.agg [.int .i64 0,.int .i64 0,.int .i64 0,.int .i64 0,.int .i64 0,.int .i64 0,.int .i64 0,.int .i64 0,.int .i64 0,.int .i64 0]) (es:=[vI (0),vI (0),vI (0),vI (0),vI (0),vI (0),vI (0),vI (0),vI (0),vI (0)]) (by kernel_rfl) fun b4=>?_
 refine run 6 ?_
 obtain ⟨t103,ht103,ho⟩:=bnd ho
 refine wlp ht103 [0,2,4,6,7,9] (fun s g=>([(10,vI (s.1))],[(.ptr b4 0,.box [vI (s.2.1),vI (s.2.2.1),vI (s.2.2.2.1),vI (s.2.2.2.2.1),vI (s.2.2.2.2.2.1),vI (s.2.2.2.2.2.2.1),vI (s.2.2.2.2.2.2.2.1),vI (s.2.2.2.2.2.2.2.2.1),vI (s.2.2.2.2.2.2.2.2.2.1),vI (s.2.2.2.2.2.2.2.2.2.2.1)]),(.ptr b3 0,.box [vI (s.2.2.2.2.2.2.2.2.2.2.2.1),vI (s.2.2.2.2.2.2.2.2.2.2.2.2.1)]),(.ptr b2 0,.box [vI (s.2.2.2.2.2.2.2.2.2.2.2.2.2.2.2.2.1),vI (s.2.2.2.2.2.2.2.2.2.2.2.2.2.1),vI (s.2.2.2.2.2.2.2.2.2.2.2.2.2.2.2.2.2.1),vI (s.2.2.2.2.2.2.2.2.2.2.2.2.2.2.2.2.2.2.1),vI (s.2.2.2.2.2.2.2.2.2.2.2.2.2.2.2.2.2.2.2.1),vI (s.2.2.2.2.2.2.2.2.2.2.2.2.2.2.2.2.2.2.2.2.1),vI (s.2.2.2.2.2.2.2.2.2.2.2.2.2.2.2.2.2.2.2.2.2.1),vI (s.2.2.2.2.2.2.2.2.2.2.2.2.2.2.2.2.2.2.2.2.2.2.1),vI (s.2.2.2.2.2.2.2.2.2.2.2.2.2.2.2.2.2.2.2.2.2.2.2.1),vI (s.2.2.2.2.2.2.2.2.2.2.2.2.2.2.2.2.2.2.2.2.2.2.2.2)]),(.ptr b1 0,.box [vI (s.2.2.2.2.2.2.2.2.2.2.2.2.2.2.1),vI (s.2.2.2.2.2.2.2.2.2.2.2.2.2.2.2.1)])])) (fun b=>(.ret,fun g=>([(8,vB (b.1))],[(.ptr b3 0,.box [vI (b.2.2.1),vI (b.2.2.2.1)]),(.ptr b2 0,.box [vI (b.2.2.2.2.1),vI (b.2.2.2.2.2.1),vI (b.2.2.2.2.2.2.1),vI (b.2.2.2.2.2.2.2.1),vI (b.2.2.2.2.2.2.2.2.1),vI (b.2.2.2.2.2.2.2.2.2.1),vI (b.2.2.2.2.2.2.2.2.2.2.1),vI (b.2.2.2.2.2.2.2.2.2.2.2.1),vI (b.2.2.2.2.2.2.2.2.2.2.2.2.1),vI (b.2.2.2.2.2.2.2.2.2.2.2.2.2.1)])]))) [] SEL (pk [0,1,2,3]) NE (fun s77 g78 _ ho=>?_) fun g104=>?_
 ·refine run 4 ?_
  refine za3 [4] (by kernel_rfl) ?_
  refine run 4 ?_
  refine zz (R:=rMotionState) (a:=(s77.2.2.2.2.2.2.2.2.2.2.2.2.2.2.1,s77.2.2.2.2.2.2.2.2.2.2.2.2.2.2.2.1,())) 3 (fun _ h=>by cases h <;> rfl) U26 (za (zb rfl) (za (zb rfl) ze rfl) rfl) (.n rfl) rfl rfl (.t rfl) rfl ?_
  refine xcl ho ?_
  intro y80 hy80 ho
  show SOps ..
  refine run 8 ?_
  refine wbr ho (fun hb83 ho=>?_) fun hb83 ho=>?_
  ·refine run 3 ?_
   refine xcl ho ?_
   intro y84 hy84 ho
   show SOps ..
   refine run 2 ?_
   refine wct ho (fun hq85 ho=>?_) fun hq85 ho=>?_
   ·refine run 7 ?_
    refine za3 [0,1,1000004,1000006,1000007,1000009] (by kernel_rfl) ?_ (hdi:=rdists rfl (rowns rfl) (.c (.o (j:=3) rfl rfl) (.c (.o (j:=2) rfl rfl) (.c (.o (j:=1) rfl rfl) (.c (.o (j:=0) rfl rfl) .n)))) rfl)
    refine zz (R:=rLeg) (a:=(s77.2.1,y80,(s77.2.2.2.1,s77.2.2.2.2.1,s77.2.2.2.2.2.1,s77.2.2.2.2.2.2.1,s77.2.2.2.2.2.2.2.1,s77.2.2.2.2.2.2.2.2.1,()),s77.2.2.2.2.2.2.2.2.2.1,s77.2.2.2.2.2.2.2.2.2.2.1,())) 0 (fun _ h=>by cases h <;> rfl) U61 (za (zb rfl) (za (zb rfl) (za (za (zb rfl) (za (zb rfl) (za (zb rfl) (za (zb rfl) (za (zb rfl) (za (zb rfl) ze rfl) rfl) rfl) rfl) rfl) rfl) (za (zb rfl) (za (zb rfl) ze rfl) rfl) rfl) rfl) rfl) (.n rfl) rfl rfl (.t rfl) rfl ?_
    refine zz (R:=rMotionState) (a:=(s77.2.2.2.2.2.2.2.2.2.2.2.2.2.2.1,s77.2.2.2.2.2.2.2.2.2.2.2.2.2.2.2.1,())) 3 (fun _ h=>by cases h <;> rfl) U26 (za (zb rfl) (za (zb rfl) ze rfl) rfl) (.n rfl) rfl rfl (.t rfl) rfl ?_
    refine run 4 ?_
    cases ho; exact r_ret (lf [] [1,2])
   ·refine run 7 ?_
    refine wct ho (fun hq86 ho=>?_) fun hq86 ho=>?_
    ·refine run 1 ?_
     refine za3 [0,1,1000004,1000006,1000007,1000009] (by kernel_rfl) ?_ (hdi:=rdists rfl (rowns rfl) (.c (.o (j:=3) rfl rfl) (.c (.o (j:=2) rfl rfl) (.c (.o (j:=1) rfl rfl) (.c (.o (j:=0) rfl rfl) .n)))) rfl)
     refine zz (R:=rLeg) (a:=(s77.2.1,s77.2.2.1,(s77.2.2.2.1,s77.2.2.2.2.1,s77.2.2.2.2.2.1,s77.2.2.2.2.2.2.1,s77.2.2.2.2.2.2.2.1,s77.2.2.2.2.2.2.2.2.1,()),s77.2.2.2.2.2.2.2.2.2.1,s77.2.2.2.2.2.2.2.2.2.2.1,())) 0 (fun _ h=>by cases h <;> rfl) U61 (za (zb rfl) (za (zb rfl) (za (za (zb rfl) (za (zb rfl) (za (zb rfl) (za (zb rfl) (za (zb rfl) (za (zb rfl) ze rfl) rfl) rfl) rfl) rfl) rfl) (za (zb rfl) (za (zb rfl) ze rfl) rfl) rfl) rfl) rfl) (.n rfl) rfl rfl (.t rfl) rfl ?_
     refine zz (R:=rMotionState) (a:=(s77.2.2.2.2.2.2.2.2.2.2.2.2.2.2.1,s77.2.2.2.2.2.2.2.2.2.2.2.2.2.2.2.1,())) 3 (fun _ h=>by cases h <;> rfl) U26 (za (zb rfl) (za (zb rfl) ze rfl) rfl) (.n rfl) rfl rfl (.t rfl) rfl ?_
     refine run 4 ?_
     cases ho; exact r_ret (lf [] [1,2])
    ·refine run 4 ?_
     refine zz (R:=rMotionState) (a:=(s77.2.2.2.2.2.2.2.2.2.2.2.2.2.2.1,s77.2.2.2.2.2.2.2.2.2.2.2.2.2.2.2.1,())) 3 (fun _ h=>by cases h <;> rfl) U26 (za (zb rfl) (za (zb rfl) ze rfl) rfl) (.n rfl) rfl rfl (.t rfl) rfl ?_
     refine run 1 ?_
     refine xcl ho ?_
     intro y87 hy87 ho
     show SOps ..
     refine run 3 ?_
     refine xal (zv:=.agg [.int .i64 0,.int .i64 0,.int .i64 0,.int .i64 0,.int .i64 0,.int .i64 0,.int .i64 0,.int .i64 0,.int .i64 0,.int .i64 0]) (es:=[vI (0),vI (0),vI (0),vI (0),vI (0),vI (0),vI (0),vI (0),vI (0),vI (0)]) (by kernel_rfl) fun b88=>?_
     refine run 1 ?_
     refine s_st (zj (R:=zt) (a:=y87.1) 0 [12] (za (za (zb rfl) (za (zb rfl) ze rfl) rfl) (za (za (zb rfl) (za (zb rfl) (za (zb rfl) (za (zb rfl) (za (zb rfl) (za (zb rfl) ze rfl) rfl) rfl) rfl) rfl) rfl) (za (zb rfl) (za (zb rfl) ze rfl) rfl) rfl) rfl) rfl rfl ⟨rfl,trivial⟩) ?_
     refine run 8 ?_
     refine wbr ho (fun hb90 ho=>?_) fun hb90 ho=>?_
     ·refine run 6 ?_
      refine zh1 (.t rfl) (fun _=>?_) (fun hq=>by cases hq)
      refine run 1 ?_
      refine za3 [0,1,1000004,1000006,1000007,1000009] (by kernel_rfl) ?_ (hdi:=rdists rfl (rowns rfl) (.c (.o (j:=3) rfl rfl) (.c (.o (j:=2) rfl rfl) (.c (.o (j:=1) rfl rfl) (.c (.o (j:=0) rfl rfl) .n)))) rfl)
      refine zz (R:=rLeg) (a:=(s77.2.1,s77.2.2.1,(s77.2.2.2.1,s77.2.2.2.2.1,s77.2.2.2.2.2.1,s77.2.2.2.2.2.2.1,s77.2.2.2.2.2.2.2.1,s77.2.2.2.2.2.2.2.2.1,()),s77.2.2.2.2.2.2.2.2.2.1,s77.2.2.2.2.2.2.2.2.2.2.1,())) 0 (fun _ h=>by cases h <;> rfl) U61 (za (zb rfl) (za (zb rfl) (za (za (zb rfl) (za (zb rfl) (za (zb rfl) (za (zb rfl) (za (zb rfl) (za (zb rfl) ze rfl) rfl) rfl) rfl) rfl) rfl) (za (zb rfl) (za (zb rfl) ze rfl) rfl) rfl) rfl) rfl) (.n rfl) rfl rfl (.t rfl) rfl ?_
      refine zz (R:=rMotionState) (a:=(s77.2.2.2.2.2.2.2.2.2.2.2.2.2.2.1,s77.2.2.2.2.2.2.2.2.2.2.2.2.2.2.2.1,())) 3 (fun _ h=>by cases h <;> rfl) U26 (za (zb rfl) (za (zb rfl) ze rfl) rfl) (.n rfl) rfl rfl (.t rfl) rfl ?_
      refine run 4 ?_
      cases ho; exact r_ret (lf [] [1,2])
     ·refine run 6 ?_
      refine wct ho (fun hq92 ho=>?_) fun hq92 ho=>?_
      ·refine run 1 ?_
       refine za3 [0,1,1000004,1000006,1000007,1000009] (by kernel_rfl) ?_ (hdi:=rdists rfl (rowns rfl) (.c (.o (j:=3) rfl rfl) (.c (.o (j:=2) rfl rfl) (.c (.o (j:=1) rfl rfl) (.c (.o (j:=0) rfl rfl) .n)))) rfl)
       refine zz (R:=rLeg) (a:=(s77.2.1,s77.2.2.1,(s77.2.2.2.1,s77.2.2.2.2.1,s77.2.2.2.2.2.1,s77.2.2.2.2.2.2.1,s77.2.2.2.2.2.2.2.1,s77.2.2.2.2.2.2.2.2.1,()),s77.2.2.2.2.2.2.2.2.2.1,s77.2.2.2.2.2.2.2.2.2.2.1,())) 0 (fun _ h=>by cases h <;> rfl) U61 (za (zb rfl) (za (zb rfl) (za (za (zb rfl) (za (zb rfl) (za (zb rfl) (za (zb rfl) (za (zb rfl) (za (zb rfl) ze rfl) rfl) rfl) rfl) rfl) rfl) (za (zb rfl) (za (zb rfl) ze rfl) rfl) rfl) rfl) rfl) (.n rfl) rfl rfl (.t rfl) rfl ?_
       refine zz (R:=rMotionState) (a:=(s77.2.2.2.2.2.2.2.2.2.2.2.2.2.2.1,s77.2.2.2.2.2.2.2.2.2.2.2.2.2.2.2.1,())) 3 (fun _ h=>by cases h <;> rfl) U26 (za (zb rfl) (za (zb rfl) ze rfl) rfl) (.n rfl) rfl rfl (.t rfl) rfl ?_
       refine run 4 ?_
       cases ho; exact r_ret (lf [] [1,2])
      ·refine run 18 ?_
       refine zo14 (R:=rMotionLedger) (a:=(s77.2.2.2.1,s77.2.2.2.2.1,s77.2.2.2.2.2.1,s77.2.2.2.2.2.2.1,s77.2.2.2.2.2.2.2.1,s77.2.2.2.2.2.2.2.2.1,())) (off:=2) 0 (fun _ h=>by cases h <;> rfl) U31 (za (zb rfl) (za (zb rfl) (za (zb rfl) (za (zb rfl) (za (zb rfl) (za (zb rfl) ze rfl) rfl) rfl) rfl) rfl) rfl) (by exact Nat.le_of_ble_eq_true rfl) (.n rfl) rfl rfl (.t rfl) rfl ?_
       refine run 3 ?_
       refine xcl ho ?_
       intro y93 hy93 ho
       show SOps ..
       refine run 1 ?_
       refine zg9 (off:=2) (es':=[vI (y93.1),vI (y93.2.1),vI (y93.2.2.1),vI (y93.2.2.2.1),vI (y93.2.2.2.2.1),vI (y93.2.2.2.2.2.1)]) 0 U31 rfl (za (zb rfl) (za (zb rfl) (za (zb rfl) (za (zb rfl) (za (zb rfl) (za (zb rfl) ze rfl) rfl) rfl) rfl) rfl) rfl) (by exact Nat.le_of_ble_eq_true rfl) (.n rfl) rfl rfl (.t rfl) (.t rfl) (by rfl) ?_
       refine run 1 ?_
       refine za3 [1,6] (by kernel_rfl) ?_
       refine run 19 ?_
       cases ho; exact s_nil (lf [] [0,1,2,3])
  ·refine run 6 ?_
   refine zh1 (.t rfl) (fun hq=>by cases hq) (fun _=>?_)
   refine run 7 ?_
   refine wct ho (fun hq95 ho=>?_) fun hq95 ho=>?_
   ·refine run 1 ?_
    refine za3 [0,1,1000004,1000006,1000007,1000009] (by kernel_rfl) ?_ (hdi:=rdists rfl (rowns rfl) (.c (.o (j:=3) rfl rfl) (.c (.o (j:=2) rfl rfl) (.c (.o (j:=1) rfl rfl) (.c (.o (j:=0) rfl rfl) .n)))) rfl)
    refine zz (R:=rLeg) (a:=(s77.2.1,s77.2.2.1,(s77.2.2.2.1,s77.2.2.2.2.1,s77.2.2.2.2.2.1,s77.2.2.2.2.2.2.1,s77.2.2.2.2.2.2.2.1,s77.2.2.2.2.2.2.2.2.1,()),s77.2.2.2.2.2.2.2.2.2.1,s77.2.2.2.2.2.2.2.2.2.2.1,())) 0 (fun _ h=>by cases h <;> rfl) U61 (za (zb rfl) (za (zb rfl) (za (za (zb rfl) (za (zb rfl) (za (zb rfl) (za (zb rfl) (za (zb rfl) (za (zb rfl) ze rfl) rfl) rfl) rfl) rfl) rfl) (za (zb rfl) (za (zb rfl) ze rfl) rfl) rfl) rfl) rfl) (.n rfl) rfl rfl (.t rfl) rfl ?_
    refine zz (R:=rMotionState) (a:=(s77.2.2.2.2.2.2.2.2.2.2.2.2.2.2.1,s77.2.2.2.2.2.2.2.2.2.2.2.2.2.2.2.1,())) 3 (fun _ h=>by cases h <;> rfl) U26 (za (zb rfl) (za (zb rfl) ze rfl) rfl) (.n rfl) rfl rfl (.t rfl) rfl ?_
    refine run 4 ?_
    cases ho; exact r_ret (lf [] [1,2])
   ·refine run 4 ?_
    refine zz (R:=rMotionState) (a:=(s77.2.2.2.2.2.2.2.2.2.2.2.2.2.2.1,s77.2.2.2.2.2.2.2.2.2.2.2.2.2.2.2.1,())) 3 (fun _ h=>by cases h <;> rfl) U26 (za (zb rfl) (za (zb rfl) ze rfl) rfl) (.n rfl) rfl rfl (.t rfl) rfl ?_
    refine run 1 ?_
    refine xcl ho ?_
    intro y96 hy96 ho
    show SOps ..
    refine run 3 ?_
    refine xal (zv:=.agg [.int .i64 0,.int .i64 0,.int .i64 0,.int .i64 0,.int .i64 0,.int .i64 0,.int .i64 0,.int .i64 0,.int .i64 0,.int .i64 0]) (es:=[vI (0),vI (0),vI (0),vI (0),vI (0),vI (0),vI (0),vI (0),vI (0),vI (0)]) (by kernel_rfl) fun b97=>?_
    refine run 1 ?_
    refine s_st (zj (R:=zt) (a:=y96.1) 0 [12] (za (za (zb rfl) (za (zb rfl) ze rfl) rfl) (za (za (zb rfl) (za (zb rfl) (za (zb rfl) (za (zb rfl) (za (zb rfl) (za (zb rfl) ze rfl) rfl) rfl) rfl) rfl) rfl) (za (zb rfl) (za (zb rfl) ze rfl) rfl) rfl) rfl) rfl rfl ⟨rfl,trivial⟩) ?_
    refine run 8 ?_
    refine wbr ho (fun hb99 ho=>?_) fun hb99 ho=>?_
    ·refine run 6 ?_
     refine zh1 (.t rfl) (fun _=>?_) (fun hq=>by cases hq)
     refine run 1 ?_
     refine za3 [0,1,1000004,1000006,1000007,1000009] (by kernel_rfl) ?_ (hdi:=rdists rfl (rowns rfl) (.c (.o (j:=3) rfl rfl) (.c (.o (j:=2) rfl rfl) (.c (.o (j:=1) rfl rfl) (.c (.o (j:=0) rfl rfl) .n)))) rfl)
     refine zz (R:=rLeg) (a:=(s77.2.1,s77.2.2.1,(s77.2.2.2.1,s77.2.2.2.2.1,s77.2.2.2.2.2.1,s77.2.2.2.2.2.2.1,s77.2.2.2.2.2.2.2.1,s77.2.2.2.2.2.2.2.2.1,()),s77.2.2.2.2.2.2.2.2.2.1,s77.2.2.2.2.2.2.2.2.2.2.1,())) 0 (fun _ h=>by cases h <;> rfl) U61 (za (zb rfl) (za (zb rfl) (za (za (zb rfl) (za (zb rfl) (za (zb rfl) (za (zb rfl) (za (zb rfl) (za (zb rfl) ze rfl) rfl) rfl) rfl) rfl) rfl) (za (zb rfl) (za (zb rfl) ze rfl) rfl) rfl) rfl) rfl) (.n rfl) rfl rfl (.t rfl) rfl ?_
     refine zz (R:=rMotionState) (a:=(s77.2.2.2.2.2.2.2.2.2.2.2.2.2.2.1,s77.2.2.2.2.2.2.2.2.2.2.2.2.2.2.2.1,())) 3 (fun _ h=>by cases h <;> rfl) U26 (za (zb rfl) (za (zb rfl) ze rfl) rfl) (.n rfl) rfl rfl (.t rfl) rfl ?_
     refine run 4 ?_
     cases ho; exact r_ret (lf [] [1,2])
    ·refine run 6 ?_
     refine wct ho (fun hq101 ho=>?_) fun hq101 ho=>?_
     ·refine run 1 ?_
      refine za3 [0,1,1000004,1000006,1000007,1000009] (by kernel_rfl) ?_ (hdi:=rdists rfl (rowns rfl) (.c (.o (j:=3) rfl rfl) (.c (.o (j:=2) rfl rfl) (.c (.o (j:=1) rfl rfl) (.c (.o (j:=0) rfl rfl) .n)))) rfl)
      refine zz (R:=rLeg) (a:=(s77.2.1,s77.2.2.1,(s77.2.2.2.1,s77.2.2.2.2.1,s77.2.2.2.2.2.1,s77.2.2.2.2.2.2.1,s77.2.2.2.2.2.2.2.1,s77.2.2.2.2.2.2.2.2.1,()),s77.2.2.2.2.2.2.2.2.2.1,s77.2.2.2.2.2.2.2.2.2.2.1,())) 0 (fun _ h=>by cases h <;> rfl) U61 (za (zb rfl) (za (zb rfl) (za (za (zb rfl) (za (zb rfl) (za (zb rfl) (za (zb rfl) (za (zb rfl) (za (zb rfl) ze rfl) rfl) rfl) rfl) rfl) rfl) (za (zb rfl) (za (zb rfl) ze rfl) rfl) rfl) rfl) rfl) (.n rfl) rfl rfl (.t rfl) rfl ?_
      refine zz (R:=rMotionState) (a:=(s77.2.2.2.2.2.2.2.2.2.2.2.2.2.2.1,s77.2.2.2.2.2.2.2.2.2.2.2.2.2.2.2.1,())) 3 (fun _ h=>by cases h <;> rfl) U26 (za (zb rfl) (za (zb rfl) ze rfl) rfl) (.n rfl) rfl rfl (.t rfl) rfl ?_
      refine run 4 ?_
      cases ho; exact r_ret (lf [] [1,2])
     ·refine run 18 ?_
      refine zo14 (R:=rMotionLedger) (a:=(s77.2.2.2.1,s77.2.2.2.2.1,s77.2.2.2.2.2.1,s77.2.2.2.2.2.2.1,s77.2.2.2.2.2.2.2.1,s77.2.2.2.2.2.2.2.2.1,())) (off:=2) 0 (fun _ h=>by cases h <;> rfl) U31 (za (zb rfl) (za (zb rfl) (za (zb rfl) (za (zb rfl) (za (zb rfl) (za (zb rfl) ze rfl) rfl) rfl) rfl) rfl) rfl) (by exact Nat.le_of_ble_eq_true rfl) (.n rfl) rfl rfl (.t rfl) rfl ?_
      refine run 3 ?_
      refine xcl ho ?_
      intro y102 hy102 ho
      show SOps ..
      refine run 1 ?_
      refine zg9 (off:=2) (es':=[vI (y102.1),vI (y102.2.1),vI (y102.2.2.1),vI (y102.2.2.2.1),vI (y102.2.2.2.2.1),vI (y102.2.2.2.2.2.1)]) 0 U31 rfl (za (zb rfl) (za (zb rfl) (za (zb rfl) (za (zb rfl) (za (zb rfl) (za (zb rfl) ze rfl) rfl) rfl) rfl) rfl) rfl) (by exact Nat.le_of_ble_eq_true rfl) (.n rfl) rfl rfl (.t rfl) (.t rfl) (by rfl) ?_
      refine run 1 ?_
      refine za3 [1,6] (by kernel_rfl) ?_
      refine run 19 ?_
      cases ho; exact s_nil (lf [] [0,1,2,3])
 ·cases ho; exact id (zm (.inr rfl) (.b 1 U61 (za (zb rfl) (za (zb rfl) (za (za (zb rfl) (za (zb rfl) (za (zb rfl) (za (zb rfl) (za (zb rfl) (za (zb rfl) ze rfl) rfl) rfl) rfl) rfl) rfl) (za (zb rfl) (za (zb rfl) ze rfl) rfl) rfl) rfl) rfl) rfl rfl (.b 0 U26 (za (zb rfl) (za (zb rfl) ze rfl) rfl) rfl rfl (.v rfl .n))) (by decide))⟩
instance i25 {p_0 p_1 p_2 p_3 p_4}:FI ktab 25 (ze2 p_0 p_1 p_2 p_3 p_4) [.val rPlan p_0,.val (rSlice rAMove) p_1,.val rTrain p_2,vI p_3,.val (rSlice (rInt .i64)) p_4] (fun out=>[.row rLeg (out.1),.val (rInt .i64) (out.2)]):=⟨fun out ho=>by
 delta ze2 at ho
 refine fn fun _ _=>?_
 refine run 4 ?_
 refine s_st (zj1 rLeg) ?_
 refine zj2 (.n rfl) rfl rfl .nilr ?_
 refine run 9 ?_
 refine xcl ho ?_
 intro y1 hy1 ho
 show SOps ..
 refine run 12 ?_
 refine wct ho (fun hq2 ho=>?_) fun hq2 ho=>?_
 ·refine run 2 ?_
  refine s_st (zj1 rLeg) ?_
  refine zj2 (.n rfl) rfl rfl .nilr ?_
  exact w ho
 ·refine run 7 ?_
  obtain ⟨x5,hx5,ho⟩:=bnd ho
  refine run 4 ?_
  refine xal (zv:=.agg [.int .i64 0,.int .i64 0]) (es:=[vI (0),vI (0)]) (by kernel_rfl) fun b6=>?_
  refine run 4 ?_
  refine s_st (zj1 rLeg) ?_
  refine zj2 (.n rfl) rfl rfl .nilr ?_
  refine run 5 ?_
  obtain ⟨x7,hx7,ho⟩:=bnd ho
  refine run 5 ?_
  obtain ⟨t46,ht46,ho⟩:=bnd ho
  refine wlp ht46 [12,14,41,42] (fun s g=>([(15,.raw ((gh g 0))),(43,vI (s.2.1))],[(.ptr b6 0,.box [vI (s.2.2.1),vI (s.2.2.2)]),((gh g 0),.row rLeg (s.1))])) (altX (fun b=>(.exit 0,fun g=>([(15,.raw ((gh g 0)))],[((gh g 0),.row rLeg (b.1))]))) (fun b=>(.ret,fun g=>([(10,.raw ((gh g 0))),(11,vI (b.2.1))],[((gh g 0),.row rLeg (b.1))])))) [.nilslice] SEL (pk [1,0]) NE (fun s32 g33 _ ho=>?_) fun g47=>?_
  ·refine run 5 ?_
   refine wct ho (fun hq34 ho=>?_) fun hq34 ho=>?_
   ·refine run 5 ?_
    obtain ⟨x35,hx35,ho⟩:=bnd ho
    refine run 7 ?_
    refine zz (R:=rMotionState) (a:=(s32.2.2.1,s32.2.2.2,())) 0 (fun _ h=>by cases h <;> rfl) U26 (za (zb rfl) (za (zb rfl) ze rfl) rfl) (.n rfl) rfl rfl (.t rfl) rfl ?_
    refine run 1 ?_
    obtain ⟨p36,hp36,ho⟩:=bnd ho
    refine s_st (zo5 (n:=48) hp36 rfl) ?_
    refine xcl ho ?_
    intro y37 hy37 ho
    show SOps ..
    refine run 4 ?_
    refine xal (zv:=.agg [.int .i64 0,.int .i64 0,.int .i64 0,.int .i64 0,.int .i64 0,.int .i64 0,.int .i64 0,.int .i64 0,.int .i64 0,.int .i64 0]) (es:=[vI (0),vI (0),vI (0),vI (0),vI (0),vI (0),vI (0),vI (0),vI (0),vI (0)]) (by kernel_rfl) fun b38=>?_
    refine xal (zv:=.agg [.int .i64 0,.int .i64 0]) (es:=[vI (0),vI (0)]) (by kernel_rfl) fun b39=>?_
    refine run 1 ?_
    refine s_st (zj (R:=rLeg) (a:=y37.1) 1 [18] (za (zb rfl) (za (zb rfl) (za (za (zb rfl) (za (zb rfl) (za (zb rfl) (za (zb rfl) (za (zb rfl) (za (zb rfl) ze rfl) rfl) rfl) rfl) rfl) rfl) (za (zb rfl) (za (zb rfl) ze rfl) rfl) rfl) rfl) rfl) rfl rfl ⟨rfl,trivial⟩) ?_
    refine run 1 ?_
    refine s_st (zj (R:=rMotionState) (a:=y37.2.1) 0 [19] (za (zb rfl) (za (zb rfl) ze rfl) rfl) rfl rfl ⟨rfl,trivial⟩) ?_
    refine run 8 ?_
    refine wbr ho (fun hb41 ho=>?_) fun hb41 ho=>?_
    ·refine run 5 ?_
     refine zh1 (.t rfl) (fun _=>?_) (fun hq=>by cases hq)
     refine run 2 ?_
     refine s_st (zj1 rLeg) ?_
     refine zj2 (.n rfl) rfl rfl .nilr ?_
     refine run 2 ?_
     cases ho; exact r_ret (lf [.nilslice] [0])
    ·refine run 5 ?_
     refine wct ho (fun hq43 ho=>?_) fun hq43 ho=>?_
     ·refine run 2 ?_
      refine s_st (zj1 rLeg) ?_
      refine zj2 (.n rfl) rfl rfl .nilr ?_
      refine run 2 ?_
      cases ho; exact r_ret (lf [.nilslice] [0])
     ·refine run 6 ?_
      obtain ⟨x44,hx44,ho⟩:=bnd ho
      refine xap fun v45=>?_
      refine run 9 ?_
      cases ho; exact s_nil (lf [v45] [1,0])
   ·cases ho; exact zp1 (lf [(gh g33 0)] [1])
  ·rcases t46 with b48 | b49
   ·have ho:=alt_l ho
    show SRun ..
    exact w ho
   ·have ho:=alt_r ho
    cases ho; exact id (zm (.inr rfl) (.r 0 rfl rfl (.v rfl .n)) (by decide))⟩
end Go.Ai.TabYtcokdbcdlaofbaaGreat

/- Written by program: walks through functions. -/
namespace Go.Ai.TabYtcokdbcdlaofbaaGreat
open Go Go.Ai Go.Ai.Sx Go.Proofs
attribute [local irreducible] SOps
set_option maxRecDepth 100000
set_option maxHeartbeats 4000000
instance i40:FI ktab 40 (zo7) [] (fun out=>[.val rTrain (out.1),.val rPlan (out.2)]):=⟨fun out ho=>by
 delta zo7 at ho
 refine fn fun _ _=>?_
 refine run 2 ?_
 refine xal (zv:=.agg [.int .i64 0,.int .i64 0,.int .i64 0,.int .i64 0,.int .i64 0,.int .i64 0,.int .i64 0,.int .i64 0,.int .i64 0,.nilslice]) (es:=[vI (0),vI (0),vI (0),vI (0),vI (0),vI (0),vI (0),vI (0),vI (0),.val (rSlice (rInt .i64)) ([])]) (by kernel_rfl) fun b1=>?_
 refine xal (zv:=.agg [.nilslice,.nilslice]) (es:=[.val (rSlice rANode) ([]),.val (rSlice rRail) ([])]) (by kernel_rfl) fun b2=>?_
 refine run 5 ?_
 refine xal (zv:=.agg [.int .i64 0,.int .i64 0,.int .i64 0,.int .i64 0,.int .i64 0,.int .i64 0,.int .i64 0,.int .i64 0,.int .i64 0,.nilslice]) (es:=[vI (0),vI (0),vI (0),vI (0),vI (0),vI (0),vI (0),vI (0),vI (0),.val (rSlice (rInt .i64)) ([])]) (by kernel_rfl) fun b3=>?_
 refine run 1 ?_
 refine s_st (zj (R:=rTrain) (a:=((1000,5000,10000,2000,1000,1000000,0,0,50,[1000,10],()):Train)) 0 [2] (za (zb rfl) (za (zb rfl) (za (zb rfl) (za (zb rfl) (za (zb rfl) (za (zb rfl) (za (zb rfl) (za (zb rfl) (za (zb rfl) (za (zb rfl) ze rfl) rfl) rfl) rfl) rfl) rfl) rfl) rfl) rfl) rfl) rfl rfl ⟨rfl,trivial⟩) ?_
 refine run 14 ?_
 refine xal (zv:=.agg [.nilslice,.nilslice]) (es:=[.val (rSlice rANode) ([]),.val (rSlice rRail) ([])]) (by kernel_rfl) fun b4=>?_
 refine run 1 ?_
 refine s_st (zj (R:=rPlan) (a:=(([(((0,0,()),1,[((0,false,()):RailEnd)],0,()):ANode),((((100000,0,()):Spot),1,[((0,true,()):RailEnd)],0,()):ANode)],[((0,1,[],8000,0,()):Rail)],()):Plan)) 0 [3] (za (zb rfl) (za (zb rfl) ze rfl) rfl) rfl rfl ⟨rfl,trivial⟩) ?_
 refine run 8 ?_
 cases ho; exact r_ret (zm (.inr rfl) (.b 1 U24 (za (zb rfl) (za (zb rfl) (za (zb rfl) (za (zb rfl) (za (zb rfl) (za (zb rfl) (za (zb rfl) (za (zb rfl) (za (zb rfl) (za (zb rfl) ze rfl) rfl) rfl) rfl) rfl) rfl) rfl) rfl) rfl) rfl) rfl rfl (.b 0 U48 (za (zb rfl) (za (zb rfl) ze rfl) rfl) rfl rfl .n)) (by decide))⟩
instance i15:FI ktab 15 (za2) [] (fun out=>[.val rBool (out)]):=⟨fun out ho=>by
 delta za2 at ho
 refine fn fun _ _=>?_
 refine run 6 ?_
 refine xcl ho ?_
 intro y1 hy1 ho
 show SOps ..
 refine run 3 ?_
 refine xal (zv:=.agg [.int .i64 0,.int .i64 0,.int .i64 0,.int .i64 0,.int .i64 0,.int .i64 0,.int .i64 0,.int .i64 0,.int .i64 0,.nilslice]) (es:=[vI (0),vI (0),vI (0),vI (0),vI (0),vI (0),vI (0),vI (0),vI (0),.val (rSlice (rInt .i64)) ([])]) (by kernel_rfl) fun b2=>?_
 refine xal (zv:=.agg [.nilslice,.nilslice]) (es:=[.val (rSlice rANode) ([]),.val (rSlice rRail) ([])]) (by kernel_rfl) fun b3=>?_
 refine run 1 ?_
 refine s_st (zj (R:=rTrain) (a:=y1.1) 1 [1] (za (zb rfl) (za (zb rfl) (za (zb rfl) (za (zb rfl) (za (zb rfl) (za (zb rfl) (za (zb rfl) (za (zb rfl) (za (zb rfl) (za (zb rfl) ze rfl) rfl) rfl) rfl) rfl) rfl) rfl) rfl) rfl) rfl) rfl rfl ⟨rfl,trivial⟩) ?_
 refine run 1 ?_
 refine s_st (zj (R:=rPlan) (a:=y1.2) 0 [2] (za (zb rfl) (za (zb rfl) ze rfl) rfl) rfl rfl ⟨rfl,trivial⟩) ?_
 refine run 5 ?_
 refine xcl ho ?_
 intro y4 hy4 ho
 show SOps ..
 refine run 4 ?_
 refine xal (zv:=.agg [.int .i64 0,.int .i64 0]) (es:=[vI (0),vI (0)]) (by kernel_rfl) fun b5=>?_
 refine xal (zv:=.agg [.int .i64 0,.int .i64 0,.int .i64 0,.int .i64 0,.int .i64 0,.int .i64 0]) (es:=[vI (0),vI (0),vI (0),vI (0),vI (0),vI (0)]) (by kernel_rfl) fun b6=>?_
 refine run 1 ?_
 refine s_st (zj (R:=rMotionState) (a:=y4.1) 1 [3] (za (zb rfl) (za (zb rfl) ze rfl) rfl) rfl rfl ⟨rfl,trivial⟩) ?_
 refine run 1 ?_
 refine s_st (zj (R:=rMotionLedger) (a:=y4.2.1) 0 [4] (za (zb rfl) (za (zb rfl) (za (zb rfl) (za (zb rfl) (za (zb rfl) (za (zb rfl) ze rfl) rfl) rfl) rfl) rfl) rfl) rfl rfl ⟨rfl,trivial⟩) ?_
 refine run 6 ?_
 refine xcl ho ?_
 intro y7 hy7 ho
 show SOps ..
 refine run 4 ?_
 refine xal (zv:=.agg [.int .i64 0,.int .i64 0]) (es:=[vI (0),vI (0)]) (by kernel_rfl) fun b8=>?_
 refine xal (zv:=.agg [.int .i64 0,.int .i64 0,.int .i64 0,.int .i64 0,.int .i64 0,.int .i64 0]) (es:=[vI (0),vI (0),vI (0),vI (0),vI (0),vI (0)]) (by kernel_rfl) fun b9=>?_
 refine run 1 ?_
 refine s_st (zj (R:=rMotionState) (a:=y7.1) 1 [6] (za (zb rfl) (za (zb rfl) ze rfl) rfl) rfl rfl ⟨rfl,trivial⟩) ?_
 refine run 1 ?_
 refine s_st (zj (R:=rMotionLedger) (a:=y7.2.1) 0 [7] (za (zb rfl) (za (zb rfl) (za (zb rfl) (za (zb rfl) (za (zb rfl) (za (zb rfl) ze rfl) rfl) rfl) rfl) rfl) rfl) rfl rfl ⟨rfl,trivial⟩) ?_
 refine run 6 ?_
 refine xcl ho ?_
 intro y10 hy10 ho
 show SOps ..
 refine run 9 ?_
 refine xcl ho ?_
 intro y11 hy11 ho
 show SOps ..
 refine run 13 ?_
 refine xcl ho ?_
 intro y12 hy12 ho v13
 show SOps ..
 refine run 8 ?_
 obtain ⟨c19,hc19,ho⟩:=bnd ho
 refine wcx c19 [3,4,6,9,11,13] (fun t=>(.normal,fun _=>([(75,vB (t))],[(v13,.row rLeg (y12.1))]))) SEL ?_ fun _=>?_
 ·have ho:=hc19
  refine run 4 ?_
  refine wbr ho (fun hb20 ho=>?_) fun hb20 ho=>?_
  ·refine run 20 ?_
   cases ho; exact s_nil (lf [] [0])
  ·refine run 4 ?_
   refine wbr ho (fun hb21 ho=>?_) fun hb21 ho=>?_
   ·refine run 16 ?_
    cases ho; exact s_nil (lf [] [0])
   ·refine run 4 ?_
    refine wbr ho (fun hb22 ho=>?_) fun hb22 ho=>?_
    ·refine run 12 ?_
     cases ho; exact s_nil (lf [] [0])
    ·refine run 4 ?_
     refine wbr ho (fun hb23 ho=>?_) fun hb23 ho=>?_
     ·refine run 8 ?_
      cases ho; exact s_nil (lf [] [0])
     ·refine run 4 ?_
      refine wbr ho (fun hb24 ho=>?_) fun hb24 ho=>?_
      ·refine run 4 ?_
       cases ho; exact s_nil (lf [] [0])
      ·refine run 4 ?_
       cases ho; exact s_nil (lf [] [0])
 ·show SRun ..
  refine wct ho (fun hq25 ho=>?_) fun hq25 ho=>?_
  ·exact w ho
  ·refine run 2 ?_
   obtain ⟨c33,hc33,ho⟩:=bnd ho
   refine wcx c33 [] (fun t=>(.normal,fun _=>([(0,vB (t))],[(v13,.row rLeg (y12.1))]))) SEL ?_ fun _=>?_
   ·have ho:=hc33
    refine run 5 ?_
    refine wbr ho (fun hb34 ho=>?_) fun hb34 ho=>?_
    ·refine run 5 ?_
     refine wbr ho (fun hb35 ho=>?_) fun hb35 ho=>?_
     ·refine run 5 ?_
      refine wbr ho (fun hb36 ho=>?_) fun hb36 ho=>?_
      ·refine run 5 ?_
       refine wbr ho (fun hb37 ho=>?_) fun hb37 ho=>?_
       ·refine run 4 ?_
        refine wbr ho (fun hb38 ho=>?_) fun hb38 ho=>?_
        ·refine run 4 ?_
         refine wbr ho (fun hb39 ho=>?_) fun hb39 ho=>?_
         ·refine run 1 ?_
          obtain ⟨x40,hx40,ho⟩:=bnd ho
          refine run 3 ?_
          refine zh34 (R:=rLeg) [0,1,4,2,3] B61 (.g rfl rfl (gt1 hb39)) rfl rfl rfl (.p (.i (by decide) (by decide)) rfl (.p (.i (by decide) (by decide)) rfl (.p (.t rfl) rfl (.p (.i (by decide) (by decide)) rfl (.p (.i (by decide) (by decide)) rfl (.n rfl)))))) rfl (by decide) rfl ?_
          refine run 3 ?_
          cases ho; exact s_nil (lf [] [0])
         ·refine run 8 ?_
          cases ho; exact s_nil (lf [] [0])
        ·refine run 12 ?_
         cases ho; exact s_nil (lf [] [0])
       ·refine run 16 ?_
        cases ho; exact s_nil (lf [] [0])
      ·refine run 21 ?_
       cases ho; exact s_nil (lf [] [0])
     ·refine run 26 ?_
      cases ho; exact s_nil (lf [] [0])
    ·refine run 31 ?_
     cases ho; exact s_nil (lf [] [0])
   ·show SRun ..
    cases ho; exact r_ret (zm (.inr rfl) (.v rfl .n) (by decide))⟩
end Go.Ai.TabYtcokdbcdlaofbaaGreat
