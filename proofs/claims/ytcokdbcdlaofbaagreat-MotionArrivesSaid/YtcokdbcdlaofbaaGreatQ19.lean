/- Written by program: walks through functions. -/
import Derived.Test.YtcokdbcdlaofbaaGreatQ18
set_option linter.unusedSimpArgs false
set_option linter.unusedVariables false
set_option linter.unusedSectionVars false
namespace Go.Ai.TabYtcokdbcdlaofbaaGreat
open Go Go.Ai Go.Ai.Sx Go.Proofs
attribute [local irreducible] SOps
set_option maxRecDepth 100000
set_option maxHeartbeats 4000000
instance i50 {p_0}:FI ktab 50 (zc7 p_0) [.val rPlan p_0] (fun out=>[.val (rPtrN zl) (out.1),.val rBool (out.2)]):=⟨fun out ho=>by
 delta zc7 at ho
 refine fn fun _ _=>?_
 refine run 3 ?_
 refine zy1 rfl (.n rfl) rfl (e:=.val (rPtrN zl) none) (fun z fr h s=>⟨_,rfl,zj7⟩) ?_
 refine run 6 ?_
 refine xcl ho ?_
 intro y1 hy1 ho
 show SOps ..
 refine run 2 ?_
 refine wct ho (fun hq2 ho=>?_) fun hq2 ho=>?_
 ·refine run 2 ?_
  refine zy1 rfl (.n rfl) rfl (e:=.val (rPtrN zl) none) (fun z fr h s=>⟨_,rfl,zj7⟩) ?_
  exact w ho
 ·refine run 4 ?_
  refine zp29 (rInt .i64) MP149 rfl (.n rfl) rfl rfl ?_
  intro b3
  refine s_st (zq29 (n:=18) rfl) ?_
  refine zl23 (R:=zn13) Bq240 (.n rfl) rfl rfl rfl (.p (.t rfl) rfl (.z (fun _=>znilN) (.p (.t rfl) rfl (.n rfl)))) ?_
  refine xbo fun b4=>?_
  refine s_st (zt10 (q:=2) 0 rfl rfl rfl) ?_
  refine s_st (zj1 (rInt .i64)) ?_
  refine s_st (zq26 (q:=3) 1 rfl rfl rfl) ?_
  refine run 11 ?_
  obtain ⟨t82,ht82,ho⟩:=bnd ho
  refine wlp ht82 [1,4,22,23] (fun s g=>([(24,vI (s.1))],[(.ptr b4 0,.box [.val (rSlice rANode) (p_0.1),.val (rSlice rRail) (p_0.2.1),.raw ((gh g 0)),.raw (.map b3)]),(.map b3,.mp rRailEnd (rInt .i64) (([]:(List (RailEnd × Int))))),((gh g 0),.row (rInt .i64) (s.2))])) (fun b=>(.exit 0,fun g=>([],[(.ptr b4 0,.box [.val (rSlice rANode) (p_0.1),.val (rSlice rRail) (p_0.2.1),.raw ((gh g 0)),.raw (.map b3)]),(.map b3,.mp rRailEnd (rInt .i64) (([]:(List (RailEnd × Int))))),((gh g 0),.row (rInt .i64) (b))]))) [.nilslice] SEL (pk [1,2,0]) NE (fun s55 g56 _ ho=>?_) fun g83=>?_
  ·refine run 5 ?_
   refine wct ho (fun hq57 ho=>?_) fun hq57 ho=>?_
   ·refine run 5 ?_
    obtain ⟨x58,hx58,ho⟩:=bnd ho
    refine run 2 ?_
    refine xal (zv:=.agg [.int .i64 0,.int .i64 0,.nilslice,.int .i64 0,.int .i64 0]) (es:=[vI (0),vI (0),.val (rSlice rSpot) ([]),vI (0),vI (0)]) (by kernel_rfl) fun b59=>?_
    refine run 1 ?_
    refine s_st (zj (R:=rRail) (a:=x58) 0 [6] (za (zb rfl) (za (zb rfl) (za (zb rfl) (za (zb rfl) (za (zb rfl) ze rfl) rfl) rfl) rfl) rfl) rfl rfl ⟨rfl,trivial⟩) ?_
    refine run 5 ?_
    refine xcl ho ?_
    intro y60 hy60 ho v61
    show SOps ..
    refine run 12 ?_
    obtain ⟨t78,ht78,ho⟩:=bnd ho
    refine wlp ht78 [1,4,7,22,23,24] (fun s g=>([(8,vI (s.1)),(9,vI (s.2))],[(v61,.row rSpot (y60)),(.ptr b4 0,.box [.val (rSlice rANode) (p_0.1),.val (rSlice rRail) (p_0.2.1),.raw ((gh g56 0)),.raw (.map b3)]),(.map b3,.mp rRailEnd (rInt .i64) (([]:(List (RailEnd × Int))))),((gh g56 0),.row (rInt .i64) (s55.2))])) (fun b=>(.exit 2,fun g=>([(8,vI (b))],[(.ptr b4 0,.box [.val (rSlice rANode) (p_0.1),.val (rSlice rRail) (p_0.2.1),.raw ((gh g56 0)),.raw (.map b3)]),(.map b3,.mp rRailEnd (rInt .i64) (([]:(List (RailEnd × Int))))),((gh g56 0),.row (rInt .i64) (s55.2))]))) [] SEL (pk [0,1,2,3]) NE (fun s69 g70 _ ho=>?_) fun g79=>?_
    ·refine run 8 ?_
     refine wct ho (fun hq71 ho=>?_) fun hq71 ho=>?_
     ·refine run 3 ?_
      refine za3 [5,9] (by kernel_rfl) ?_
      refine run 4 ?_
      obtain ⟨x75,hx75,ho⟩:=bnd ho
      refine run 4 ?_
      obtain ⟨x76,hx76,ho⟩:=bnd ho
      refine run 2 ?_
      refine xcl ho ?_
      intro y77 hy77 ho
      show SOps ..
      refine run 7 ?_
      cases ho; exact s_nil (lf [] [0,1,2,3])
     ·cases ho; exact zp1 (lf [] [1,2,3])
    ·show SRun ..
     refine run 8 ?_
     obtain ⟨x80,hx80,ho⟩:=bnd ho
     refine xap fun v81=>?_
     refine run 2 ?_
     refine zn8 1 0 (U22).sz rfl rfl (by exact Nat.le_of_ble_eq_true rfl) (.n rfl) rfl rfl (.t rfl) (.t rfl) (by rfl) ?_
     refine run 4 ?_
     cases ho; exact s_nil (lf [v81] [1,2,0])
   ·cases ho; exact zp1 (lf [(gh g56 0)] [0,1,2])
  ·show SRun ..
   refine run 9 ?_
   obtain ⟨t134,ht134,ho⟩:=bnd ho
   refine wlp ht134 [4,61,62] (fun s g=>([(63,vI (s.1))],[(.ptr b4 0,.box [.val (rSlice rANode) (p_0.1),.val (rSlice rRail) (p_0.2.1),.raw ((gh g83 0)),.raw (.map b3)]),(.map b3,.mp rRailEnd (rInt .i64) (s.2)),((gh g83 0),.row (rInt .i64) (t82))])) (fun b=>(.exit 4,fun g=>([],[(.ptr b4 0,.box [.val (rSlice rANode) (p_0.1),.val (rSlice rRail) (p_0.2.1),.raw ((gh g83 0)),.raw (.map b3)]),(.map b3,.mp rRailEnd (rInt .i64) (b)),((gh g83 0),.row (rInt .i64) (t82))]))) [] SEL (pk [0,1,2]) NE (fun s116 g117 _ ho=>?_) fun g135=>?_
   ·refine run 5 ?_
    refine wct ho (fun hq118 ho=>?_) fun hq118 ho=>?_
    ·refine run 5 ?_
     obtain ⟨x119,hx119,ho⟩:=bnd ho
     refine run 2 ?_
     refine xal (zv:=.agg [.int .i64 0,.int .i64 0,.int .i64 0,.nilslice,.int .i64 0]) (es:=[vI (0),vI (0),vI (0),.val (rSlice rRailEnd) ([]),vI (0)]) (by kernel_rfl) fun b120=>?_
     refine run 1 ?_
     refine s_st (zj (R:=rANode) (a:=x119) 0 [11] (za (za (zb rfl) (za (zb rfl) ze rfl) rfl) (za (zb rfl) (za (zb rfl) (za (zb rfl) ze rfl) rfl) rfl) rfl) rfl rfl ⟨rfl,trivial⟩) ?_
     refine run 9 ?_
     obtain ⟨t132,ht132,ho⟩:=bnd ho
     refine wlp ht132 [4,61,62,63,68,69] (fun s g=>([(70,vI (s.1))],[(.ptr b4 0,.box [.val (rSlice rANode) (p_0.1),.val (rSlice rRail) (p_0.2.1),.raw ((gh g83 0)),.raw (.map b3)]),(.map b3,.mp rRailEnd (rInt .i64) (s.2)),((gh g83 0),.row (rInt .i64) (t82))])) (fun b=>(.exit 6,fun g=>([],[(.ptr b4 0,.box [.val (rSlice rANode) (p_0.1),.val (rSlice rRail) (p_0.2.1),.raw ((gh g83 0)),.raw (.map b3)]),(.map b3,.mp rRailEnd (rInt .i64) (b)),((gh g83 0),.row (rInt .i64) (t82))]))) [] SEL (pk [0,1,2]) NE (fun s127 g128 _ ho=>?_) fun g133=>?_
     ·refine run 5 ?_
      refine wct ho (fun hq129 ho=>?_) fun hq129 ho=>?_
      ·refine run 6 ?_
       obtain ⟨x130,hx130,ho⟩:=bnd ho
       refine run 2 ?_
       refine xal (zv:=.agg [.int .i64 0,.bool false]) (es:=[vI (0),vB (false)]) (by kernel_rfl) fun b131=>?_
       refine run 2 ?_
       refine s_st (zj (R:=rRailEnd) (a:=x130) 0 [13] (za (zb rfl) (za (zb rfl) ze rfl) rfl) rfl rfl ⟨rfl,trivial⟩) ?_
       refine run 1 ?_
       refine za3 [3] (by kernel_rfl) ?_
       refine run 6 ?_
       refine zs24 1 MP149 (.inl rfl) rfl (.n rfl) rfl (.t rfl) (.t rfl) (.t rfl) rfl ?_
       refine run 4 ?_
       cases ho; exact s_nil (lf [] [0,1,2])
      ·cases ho; exact zp1 (lf [] [0,1,2])
     ·show SRun ..
      refine run 3 ?_
      cases ho; exact s_nil (lf [] [0,1,2])
    ·cases ho; exact zp1 (lf [] [0,1,2])
   ·show SRun ..
    refine run 6 ?_
    cases ho
    refine r_st (zr23 1 0 (q:=3) [] rfl rfl rfl rfl (by rfl) trivial) ?_
    refine r_st (zs10 1 0 (q:=2) [] rfl rfl rfl rfl (by rfl) trivial) ?_
    refine r_st (zj (R:=zl) (a:=((p_0.1,p_0.2.1,()),t82,t134,())) 0 [4,83,2] (za (za (zb rfl) (za (zb rfl) ze rfl) rfl) (za (zb rfl) (za (zb rfl) ze rfl) rfl) rfl) rfl rfl ⟨rfl,rfl,rfl,trivial⟩) ?_
    refine r_st (zq23 (n:=2) rfl) ?_
    exact r_ret (zm (.inr rfl) (.v rfl (.v rfl .n)) (by decide))⟩
instance i83 {n_0 m_1}:FI ktab 83 (zz2 n_0 m_1) [.val (rPtr zl) n_0,.val rAMove m_1] (fun out=>[.val rBool (out)]):=⟨fun out ho=>by
 delta zz2 at ho
 refine fn fun _ _=>?_
 exact w ho⟩
instance i121 {m_0}:FI ktab 121 (zv5 m_0) [.val rAMove m_0] (fun out=>[.val rRailEnd (out)]):=⟨fun out ho=>by
 delta zv5 at ho
 refine fn fun _ _=>?_
 refine run 3 ?_
 refine xal (zv:=.agg [.int .i64 0,.bool false]) (es:=[vI (0),vB (false)]) (by kernel_rfl) fun b1=>?_
 refine run 11 ?_
 cases ho; exact r_ret (zm (.inr rfl) (.b 0 U120 (za (zb rfl) (za (zb rfl) ze rfl) rfl) rfl rfl .n) (by decide))⟩
instance i131 {p_0 from_1 to_2}:FI ktab 131 (zu6 p_0 from_1 to_2) [.val ze1 p_0,vI from_1,vI to_2] (fun out=>[.val rBool (out)]):=⟨fun out ho=>by
 delta zu6 at ho
 refine fn fun _ _=>?_
 exact w ho⟩
instance i132 {p_0 from_1 to_2}:FI ktab 132 (zw5 p_0 from_1 to_2) [.val ze1 p_0,vI from_1,vI to_2] (fun out=>[.val rBool (out)]):=⟨fun out ho=>by
 delta zw5 at ho
 refine fn fun _ _=>?_
 exact w ho⟩
instance i133 {p_0 from_1 to_2}:FI ktab 133 (zs3 p_0 from_1 to_2) [.val ze1 p_0,vI from_1,vI to_2] (fun out=>[.val rBool (out)]):=⟨fun out ho=>by
 delta zs3 at ho
 refine fn fun _ _=>?_
 refine run 6 ?_
 obtain ⟨c3,hc3,ho⟩:=bnd ho
 refine wcx c3 [] (fun t=>(.normal,fun _=>([(6,vB (t))],[]))) SEL ?_ fun _=>?_
 ·exact w hc3
 ·show SRun ..
  cases ho; exact r_ret (zm (.inr rfl) (.v rfl .n) (by decide))⟩
instance i134 {p_0 from_1 to_2}:FI ktab 134 (zg4 p_0 from_1 to_2) [.val ze1 p_0,vI from_1,vI to_2] (fun out=>[.val rBool (out)]):=⟨fun out ho=>by
 delta zg4 at ho
 refine fn fun _ _=>?_
 refine run 6 ?_
 obtain ⟨c3,hc3,ho⟩:=bnd ho
 refine wcx c3 [] (fun t=>(.normal,fun _=>([(6,vB (t))],[]))) SEL ?_ fun _=>?_
 ·exact w hc3
 ·show SRun ..
  cases ho; exact r_ret (zm (.inr rfl) (.v rfl .n) (by decide))⟩
instance i135 {x_0 from_1 to_2}:FI ktab 135 (zj3 x_0 from_1 to_2) [.val ze1 x_0,vI from_1,vI to_2] (fun out=>[.val rBool (out)]):=⟨fun out ho=>by
 delta zj3 at ho
 refine fn fun _ _=>?_
 refine run 6 ?_
 obtain ⟨c5,hc5,ho⟩:=bnd ho
 refine wcx c5 [] (fun t=>(.normal,fun _=>([(6,vB (t))],[]))) SEL ?_ fun _=>?_
 ·exact w hc5
 ·show SRun ..
  cases ho; exact r_ret (zm (.inr rfl) (.v rfl .n) (by decide))⟩
instance i136 {x_0 from_1 to_2}:FI ktab 136 (zk3 x_0 from_1 to_2) [.val ze1 x_0,vI from_1,vI to_2] (fun out=>[.val rBool (out)]):=⟨fun out ho=>by
 delta zk3 at ho
 refine fn fun _ _=>?_
 refine run 6 ?_
 obtain ⟨c5,hc5,ho⟩:=bnd ho
 refine wcx c5 [] (fun t=>(.normal,fun _=>([(6,vB (t))],[]))) SEL ?_ fun _=>?_
 ·exact w hc5
 ·show SRun ..
  cases ho; exact r_ret (zm (.inr rfl) (.v rfl .n) (by decide))⟩
instance i122 {x_0 from_1 to_2}:FI ktab 122 (ze3 x_0 from_1 to_2) [.val ze1 x_0,vI from_1,vI to_2] (fun out=>[.val rBool (out)]):=⟨fun out ho=>by
 delta ze3 at ho
 refine fn fun _ _=>?_
 refine run 7 ?_
 refine zj21 (R:=(rFn ktab (zk1 × Int × Int) (Bool) (fun x=>[.val ze1 (x.1),.val (rInt .i64) (x.2.1),.val (rInt .i64) (x.2.2)]) (fun y=>[.val rBool (y)]))) (zc:=[.nilfunc,.nilfunc,.nilfunc,.nilfunc,.nilfunc,.nilfunc,.nilfunc]) 1 (fun _=>none) AR198 (by kernel_rfl) (by rfl) (fun _ j hj=>(match j,hj with | 0,_=>znilF)) (.n rfl) rfl rfl (.c (.fv (zi12 (fun x y hf=>i131.ok _ hf) rfl)) (.c (.fv (zi12 (fun x y hf=>i132.ok _ hf) rfl)) (.c (.fv (zi12 (fun x y hf=>i133.ok _ hf) rfl)) (.c (.fv (zi12 (fun x y hf=>i134.ok _ hf) rfl)) (.c (.fv (zi12 (fun x y hf=>i135.ok _ hf) rfl)) (.c (.fv (zi12 (fun x y hf=>i136.ok _ hf) rfl)) .n)))))) (by rfl) ?_
 refine xal (zv:=.agg [.nilfunc,.nilfunc,.nilfunc,.nilfunc,.nilfunc,.nilfunc,.nilfunc]) (es:=[.raw (.nilfunc),.raw (.nilfunc),.raw (.nilfunc),.raw (.nilfunc),.raw (.nilfunc),.raw (.nilfunc),.raw (.nilfunc)]) (by kernel_rfl) fun b1=>?_
 refine zj12 0 AR198 rfl (by rfl) (by decide) (.n rfl) rfl rfl (.t rfl) (.t rfl) (by rfl) ?_
 refine s_st (zd18 (R:=(rFn ktab (zk1 × Int × Int) (Bool) (fun x=>[.val ze1 (x.1),.val (rInt .i64) (x.2.1),.val (rInt .i64) (x.2.2)]) (fun y=>[.val rBool (y)]))) 0 [7] (by decide) (by decide) rfl rfl ⟨rfl,trivial⟩) ?_
 refine run 6 ?_
 obtain ⟨x4,hx4,ho⟩:=bnd ho
 refine za6 AR198 hx4 (.n rfl) rfl rfl (.t rfl) (.t rfl) ?_
 refine run 4 ?_
 obtain ⟨y5,hy5,ho⟩:=bnd ho
 refine zi11 (X:=(zk1 × Int × Int)) (Y:=(Bool)) (f:=x4) (x:=(x_0,from_1,to_2)) hy5 (.n rfl) rfl rfl rfl (.t rfl) (.c (.t rfl) (.c (.t rfl) (.c (.t rfl) .n))) ?_
 exact w ho⟩
instance i123 {m_0}:FI ktab 123 (zq5 m_0) [.val rAMove m_0] (fun out=>[.val (rInt .i64) (out)]):=⟨fun out ho=>by
 delta zq5 at ho
 refine fn fun _ _=>?_
 exact w ho⟩
instance i139 {x_0}:FI ktab 139 (zd5 x_0) [vI x_0] (fun out=>[.val rBool (out)]):=⟨fun out ho=>by
 delta zd5 at ho
 refine fn fun _ _=>?_
 exact w ho⟩
instance i127 {x_0 y_1}:FI ktab 127 (zu2 x_0 y_1) [vI x_0,vI y_1] (fun out=>[.val rBool (out)]):=⟨fun out ho=>by
 delta zu2 at ho
 refine fn fun _ _=>?_
 refine run 5 ?_
 obtain ⟨c5,hc5,ho⟩:=bnd ho
 refine wcx c5 [] (fun t=>(.normal,fun _=>([(4,vB (t))],[]))) SEL ?_ fun _=>?_
 ·exact w hc5
 ·show SRun ..
  cases ho; exact r_ret (zm (.inr rfl) (.v rfl .n) (by decide))⟩
theorem zr6   {data_0:(List Int)} {a_1:Int} {b_2:Int} {out:((List Int))} (ho:zd1 data_0 a_1 b_2 = some out) (v_0:AVal):FunM ktab 140 [.raw v_0,.val (rInt .i64) a_1,.val (rInt .i64) b_2] [(v_0,.row (rInt .i64) (data_0))] [] (fun γ=>[(v_0,.row (rInt .i64) (out))]):=by
 refine zv15 (F:=Tryz.f140) (by rfl) (by rfl) (by rfl) (fun C=>?_)
 delta zd1 at ho
 refine run 7 ?_
 obtain ⟨t216,ht216,ho⟩:=bnd ho
 refine wlp ht216 [0,1,2] (fun s g=>([(6,vI (s.1))],[(v_0,.row (rInt .i64) (s.2))])) (fun b=>(.exit 0,fun g=>([],[(v_0,.row (rInt .i64) (b))]))) [] SEL (pk [0]) NE (fun s143 g144 _ ho=>?_) fun g217=>?_
 ·refine run 7 ?_
  refine wct ho (fun hq145 ho=>?_) fun hq145 ho=>?_
  ·refine run 9 ?_
   obtain ⟨t214,ht214,ho⟩:=bnd ho
   refine wlp ht214 [0,1,2,6] (fun s g=>([(7,vI (s.1))],[(v_0,.row (rInt .i64) (s.2))])) (fun b=>(.exit 2,fun g=>([],[(v_0,.row (rInt .i64) (b))]))) [] SEL (pk [0]) NE (fun s190 g191 _ ho=>?_) fun g215=>?_
   ·refine run 2 ?_
    refine za3 [7,12] (by kernel_rfl) ?_
    refine run 4 ?_
    refine wbr ho (fun hb200 ho=>?_) fun hb200 ho=>?_
    ·refine run 2 ?_
     obtain ⟨x201,hx201,ho⟩:=bnd ho
     refine run 5 ?_
     obtain ⟨x202,hx202,ho⟩:=bnd ho
     refine run 2 ?_
     refine xcl ho ?_
     intro y203 hy203 ho
     show SOps ..
     refine run 2 ?_
     refine wct ho (fun hq204 ho=>?_) fun hq204 ho=>?_
     ·refine run 3 ?_
      refine za3 [9,13] (by kernel_rfl) ?_
      refine run 8 ?_
      obtain ⟨x209,hx209,ho⟩:=bnd ho
      refine run 4 ?_
      obtain ⟨x210,hx210,ho⟩:=bnd ho
      refine run 2 ?_
      obtain ⟨x211,hx211,ho⟩:=bnd ho
      refine run 2 ?_
      obtain ⟨x212,hx212,ho⟩:=bnd ho
      refine run 7 ?_
      cases ho; exact s_nil (lf [] [0])
     ·cases ho; exact zp1 (lf [] [0])
    ·refine run 12 ?_
     refine zh1 (.t rfl) (fun hq=>by cases hq) (fun _=>?_)
     cases ho; exact zp1 (lf [] [0])
   ·show SRun ..
    refine run 4 ?_
    cases ho; exact s_nil (lf [] [0])
  ·cases ho; exact zp1 (lf [] [0])
 ·cases ho; exact id (zj11 [0] [] (.inl rfl) .n rfl (by decide))
instance i148 {x_0}:FI ktab 148 (zj9 x_0) [.val (rInt .u32) x_0] (fun out=>[.val (rInt .i64) (out)]):=⟨fun out ho=>by
 delta zj9 at ho
 refine fn fun _ _=>?_
 refine run 10 ?_
 refine wct ho (fun hq1 ho=>?_) fun hq1 ho=>?_
 ·refine run 3 ?_
  obtain ⟨x2,hx2,ho⟩:=bnd ho
  refine run 12 ?_
  refine wct ho (fun hq3 ho=>?_) fun hq3 ho=>?_
  ·refine run 3 ?_
   obtain ⟨x4,hx4,ho⟩:=bnd ho
   refine run 13 ?_
   obtain ⟨x5,hx5,ho⟩:=bnd ho
   refine zf8 (tbl:=strtab0) (by kernel_rfl) (by kernel_rfl) hx5 (.n rfl) rfl rfl (.t rfl) ?_
   exact w ho
  ·refine run 6 ?_
   obtain ⟨x6,hx6,ho⟩:=bnd ho
   refine zf8 (tbl:=strtab0) (by kernel_rfl) (by kernel_rfl) hx6 (.n rfl) rfl rfl (.t rfl) ?_
   exact w ho
 ·refine run 7 ?_
  refine wct ho (fun hq7 ho=>?_) fun hq7 ho=>?_
  ·refine run 3 ?_
   obtain ⟨x8,hx8,ho⟩:=bnd ho
   refine run 13 ?_
   obtain ⟨x9,hx9,ho⟩:=bnd ho
   refine zf8 (tbl:=strtab0) (by kernel_rfl) (by kernel_rfl) hx9 (.n rfl) rfl rfl (.t rfl) ?_
   exact w ho
  ·refine run 6 ?_
   obtain ⟨x10,hx10,ho⟩:=bnd ho
   refine zf8 (tbl:=strtab0) (by kernel_rfl) (by kernel_rfl) hx10 (.n rfl) rfl rfl (.t rfl) ?_
   exact w ho⟩
instance i149 {x_0}:FI ktab 149 (zw7 x_0) [.val (rInt .u64) x_0] (fun out=>[.val (rInt .i64) (out)]):=⟨fun out ho=>by
 delta zw7 at ho
 refine fn fun _ _=>?_
 refine run 10 ?_
 refine wct ho (fun hq1 ho=>?_) fun hq1 ho=>?_
 ·refine run 3 ?_
  obtain ⟨x2,hx2,ho⟩:=bnd ho
  refine run 12 ?_
  refine wct ho (fun hq3 ho=>?_) fun hq3 ho=>?_
  ·refine run 3 ?_
   obtain ⟨x4,hx4,ho⟩:=bnd ho
   refine run 14 ?_
   refine wct ho (fun hq5 ho=>?_) fun hq5 ho=>?_
   ·refine run 3 ?_
    obtain ⟨x6,hx6,ho⟩:=bnd ho
    refine run 13 ?_
    obtain ⟨x7,hx7,ho⟩:=bnd ho
    refine zf8 (tbl:=strtab0) (by kernel_rfl) (by kernel_rfl) hx7 (.n rfl) rfl rfl (.t rfl) ?_
    exact w ho
   ·refine run 6 ?_
    obtain ⟨x8,hx8,ho⟩:=bnd ho
    refine zf8 (tbl:=strtab0) (by kernel_rfl) (by kernel_rfl) hx8 (.n rfl) rfl rfl (.t rfl) ?_
    exact w ho
  ·refine run 7 ?_
   refine wct ho (fun hq9 ho=>?_) fun hq9 ho=>?_
   ·refine run 3 ?_
    obtain ⟨x10,hx10,ho⟩:=bnd ho
    refine run 13 ?_
    obtain ⟨x11,hx11,ho⟩:=bnd ho
    refine zf8 (tbl:=strtab0) (by kernel_rfl) (by kernel_rfl) hx11 (.n rfl) rfl rfl (.t rfl) ?_
    exact w ho
   ·refine run 6 ?_
    obtain ⟨x12,hx12,ho⟩:=bnd ho
    refine zf8 (tbl:=strtab0) (by kernel_rfl) (by kernel_rfl) hx12 (.n rfl) rfl rfl (.t rfl) ?_
    exact w ho
 ·refine run 7 ?_
  refine wct ho (fun hq13 ho=>?_) fun hq13 ho=>?_
  ·refine run 3 ?_
   obtain ⟨x14,hx14,ho⟩:=bnd ho
   refine run 14 ?_
   refine wct ho (fun hq15 ho=>?_) fun hq15 ho=>?_
   ·refine run 3 ?_
    obtain ⟨x16,hx16,ho⟩:=bnd ho
    refine run 13 ?_
    obtain ⟨x17,hx17,ho⟩:=bnd ho
    refine zf8 (tbl:=strtab0) (by kernel_rfl) (by kernel_rfl) hx17 (.n rfl) rfl rfl (.t rfl) ?_
    exact w ho
   ·refine run 6 ?_
    obtain ⟨x18,hx18,ho⟩:=bnd ho
    refine zf8 (tbl:=strtab0) (by kernel_rfl) (by kernel_rfl) hx18 (.n rfl) rfl rfl (.t rfl) ?_
    exact w ho
  ·refine run 7 ?_
   refine wct ho (fun hq19 ho=>?_) fun hq19 ho=>?_
   ·refine run 3 ?_
    obtain ⟨x20,hx20,ho⟩:=bnd ho
    refine run 13 ?_
    obtain ⟨x21,hx21,ho⟩:=bnd ho
    refine zf8 (tbl:=strtab0) (by kernel_rfl) (by kernel_rfl) hx21 (.n rfl) rfl rfl (.t rfl) ?_
    exact w ho
   ·refine run 6 ?_
    obtain ⟨x22,hx22,ho⟩:=bnd ho
    refine zf8 (tbl:=strtab0) (by kernel_rfl) (by kernel_rfl) hx22 (.n rfl) rfl rfl (.t rfl) ?_
    exact w ho⟩
instance i138 {x_0}:FI ktab 138 (zx5 x_0) [.val (rInt .u64) x_0] (fun out=>[.val (rInt .i64) (out)]):=⟨fun out ho=>by
 delta zx5 at ho
 refine fn fun _ _=>?_
 refine run 5 ?_
 refine zh1 .b (fun hq=>by cases hq) (fun _=>?_)
 exact w ho⟩
instance i151 {length_0}:FI ktab 151 (zn7 length_0) [vI length_0] (fun out=>[.val (rInt .u64) (out)]):=⟨fun out ho=>by
 delta zn7 at ho
 refine fn fun _ _=>?_
 exact w ho⟩
theorem ze8   {p_0:(List Int)} {p_1:Int} {p_2:Int} {p_3:Int} {out:((List Int))} (ho:zd3 p_0 p_1 p_2 p_3 = some out) (v_0:AVal):FunM ktab 137 [.raw v_0,.val (rInt .i64) p_1,.val (rInt .i64) p_2,.val (rInt .i64) p_3] [(v_0,.row (rInt .i64) (p_0))] [] (fun γ=>[(v_0,.row (rInt .i64) (out))]):=by
 refine zv15 (F:=Tryz.f137) (by rfl) (by rfl) (by rfl) (fun C=>?_)
 delta zd3 at ho
 refine run 9 ?_
 obtain ⟨t18,ht18,ho⟩:=bnd ho
 refine wlp ht18 [0] (fun s g=>([(1,vI (s.1)),(2,vI (s.2.1)),(3,vI (s.2.2.1)),(8,vB (s.2.2.2.1)),(9,vB (s.2.2.2.2.1))],[(v_0,.row (rInt .i64) (s.2.2.2.2.2))])) (fun b=>(.ret,fun g=>([],[(v_0,.row (rInt .i64) (b))]))) [] SEL (pk [0]) NE (fun s11 g12 _ ho=>?_) fun g19=>?_
 ·refine run 14 ?_
  refine wct ho (fun hq13 ho=>?_) fun hq13 ho=>?_
  ·refine run 5 ?_
   obtain ⟨y14,hy14,ho⟩:=bnd ho
   refine zp19 [0] [] (fun _ h=>by cases h) (zr6 hy14 v_0) rfl rfl (by decide) rfl (.n rfl) rfl rfl rfl .f (.c (.t rfl) (.c (.t rfl) (.c (.t rfl) .n))) ?_
   intro g15
   show SOps ..
   refine run 1 ?_
   cases ho; exact r_ret (lf [] [0])
  ·refine run 7 ?_
   refine wct ho (fun hq16 ho=>?_) fun hq16 ho=>?_
   ·refine run 5 ?_
    cases ho
   ·refine run 7 ?_
    refine wct ho (fun hq17 ho=>?_) fun hq17 ho=>?_
    ·refine run 5 ?_
     cases ho
    ·refine run 6 ?_
     cases ho
 ·cases ho; exact id (zj11 [0] [] (.inr rfl) .n rfl (by decide))
theorem zn9   {x_0:(List Int)} {out:((List Int))} (ho:zt3 x_0 = some out) (v_0:AVal):FunM ktab 124 [.raw v_0] [(v_0,.row (rInt .i64) (x_0))] [] (fun γ=>[(v_0,.row (rInt .i64) (out))]):=by
 refine zv15 (F:=Tryz.f124) (by rfl) (by rfl) (by rfl) (fun C=>?_)
 delta zt3 at ho
 refine run 11 ?_
 refine xcl ho ?_
 intro y1 hy1 ho
 show SOps ..
 obtain ⟨y2,hy2,ho⟩:=bnd ho
 refine zp19 [0] [] (fun _ h=>by cases h) (ze8 hy2 v_0) rfl rfl (by decide) rfl (.n rfl) rfl rfl rfl .f (.c (.t rfl) (.c (.i (by decide) (by decide)) (.c (.t rfl) (.c (.t rfl) .n)))) ?_
 intro g3
 show SOps ..
 cases ho; exact s_nil (zj11 [0] [] (.inl rfl) .n rfl (by decide))
instance i125 {n_0}:FI ktab 125 (zd7 n_0) [vI n_0] (fun out=>[.val rAMove (out)]):=⟨fun out ho=>by
 delta zd7 at ho
 refine fn fun _ _=>?_
 refine run 2 ?_
 refine xal (zv:=.agg [.int .i64 0,.bool false]) (es:=[vI (0),vB (false)]) (by kernel_rfl) fun b1=>?_
 refine run 4 ?_
 obtain ⟨x2,hx2,ho⟩:=bnd ho
 refine run 2 ?_
 obtain ⟨x3,hx3,ho⟩:=bnd ho
 refine run 5 ?_
 cases ho; exact r_ret (zm (.inr rfl) (.b 0 U59 (za (zb rfl) (za (zb rfl) ze rfl) rfl) rfl rfl .n) (by decide))⟩
theorem zp8 {σ τ:Type} {step:σ → (AMove) → Option (σ ⊕ τ)} {yv:AVal} {K:σ ⊕ τ → List AVal → Sx.Obj} (hcb:CbAt ktab yv (fun x=>[.val rAMove (x)]) step K) {s_:σ} {p_1:zn2} {p_2:AMove} {out:((σ ⊕ τ))} (ho:zl3 step s_ p_1 p_2 = some out) (γ0:List AVal):FunM ktab 120 [.raw yv,.val (rPtr (rPtr zl)) p_1,.val (rPtr rAMove) p_2] [(yv,K (.inl s_) γ0)] [] (fun γ=>[(yv,K (out) (untup (gh γ 0)))]):=by
 refine zv15 (F:=Tryz.f120) (by rfl) (by rfl) (by rfl) (fun C=>?_)
 delta zl3 at ho
 refine run 12 ?_
 refine xcl ho ?_
 intro y5 hy5 ho
 show SOps ..
 refine xcl ho ?_
 intro y6 hy6 ho
 show SOps ..
 obtain ⟨x7,hx7,ho⟩:=bnd ho
 refine run 2 ?_
 refine xal (zv:=.agg [.int .i64 0,.int .i64 0,.int .i64 0,.nilslice,.int .i64 0]) (es:=[vI (0),vI (0),vI (0),.val (rSlice rRailEnd) ([]),vI (0)]) (by kernel_rfl) fun b8=>?_
 refine run 1 ?_
 refine s_st (zj (R:=rANode) (a:=x7) 0 [4] (za (za (zb rfl) (za (zb rfl) ze rfl) rfl) (za (zb rfl) (za (zb rfl) (za (zb rfl) ze rfl) rfl) rfl) rfl) rfl rfl ⟨rfl,trivial⟩) ?_
 refine run 3 ?_
 refine s_st (zj1 (rInt .i64)) ?_
 refine zj2 (.n rfl) rfl rfl .nilr ?_
 refine run 10 ?_
 obtain ⟨t33,ht33,ho⟩:=bnd ho
 refine wlp ht33 [0,1,2,4,25,26] (fun s g=>([(5,.raw ((gh g 0))),(27,vI (s.2))],[(yv,K ((.inl s_)) γ0),((gh g 0),.row (rInt .i64) (s.1))])) (fun b=>(.exit 0,fun g=>([(5,.raw ((gh g 0)))],[(yv,K ((.inl s_)) γ0),((gh g 0),.row (rInt .i64) (b))]))) [.nilslice] SEL (pk [1,0]) NE (fun s20 g21 _ ho=>?_) fun g34=>?_
 ·refine run 5 ?_
  refine wct ho (fun hq22 ho=>?_) fun hq22 ho=>?_
  ·refine run 6 ?_
   obtain ⟨x23,hx23,ho⟩:=bnd ho
   refine run 2 ?_
   refine xal (zv:=.agg [.int .i64 0,.bool false]) (es:=[vI (0),vB (false)]) (by kernel_rfl) fun b24=>?_
   refine run 2 ?_
   refine s_st (zj (R:=rRailEnd) (a:=x23) 0 [7] (za (zb rfl) (za (zb rfl) ze rfl) rfl) rfl rfl ⟨rfl,trivial⟩) ?_
   refine run 10 ?_
   refine xcl ho ?_
   intro y27 hy27 ho
   show SOps ..
   refine zr37 MP149 Z3 (.n rfl) rfl rfl (.t rfl) (.t rfl) ?_
   refine run 1 ?_
   refine xcl ho ?_
   intro y28 hy28 ho
   show SOps ..
   refine run 1 ?_
   refine wct ho (fun hq29 ho=>?_) fun hq29 ho=>?_
   ·refine run 7 ?_
    refine xcl ho ?_
    intro y30 hy30 ho
    show SOps ..
    refine run 1 ?_
    obtain ⟨x31,hx31,ho⟩:=bnd ho
    refine xap fun v32=>?_
    refine run 5 ?_
    cases ho; exact s_nil (lf [v32] [1,0])
   ·refine run 4 ?_
    cases ho; exact s_nil (lf [(gh g21 0)] [0,1])
  ·cases ho; exact zp1 (lf [(gh g21 0)] [0,1])
 ·show SRun ..
  refine run 3 ?_
  obtain ⟨y35,hy35,ho⟩:=bnd ho
  refine zp19 [1] [0] (fun _ h=>by cases h) (zn9 hy35 ((gh g34 0))) rfl rfl (by decide) rfl (.n rfl) rfl rfl rfl .f (.c (.t rfl) .n) ?_
  intro g36
  show SOps ..
  refine run 8 ?_
  obtain ⟨t59,ht59,ho⟩:=bnd ho
  refine wlp ht59 [0,55,56] (fun s g=>([(57,vI (s.1))],[((gh g34 0),.row (rInt .i64) (y35)),(yv,K s.2 ((untup (gh g 0))))])) (altX (fun b=>(.exit 2,fun g=>([],[(yv,K b ((untup (gh g 0))))]))) (fun b=>(.ret,fun g=>([],[(yv,K b ((untup (gh g 0))))])))) [.tuple γ0] SEL (pk [0,1]) NE (fun s50 g51 _ ho=>?_) fun g60=>?_
  ·refine run 5 ?_
   refine wct ho (fun hq52 ho=>?_) fun hq52 ho=>?_
   ·refine run 5 ?_
    obtain ⟨x53,hx53,ho⟩:=bnd ho
    refine run 8 ?_
    refine xcl ho ?_
    intro y54 hy54 ho
    show SOps ..
    obtain ⟨s55,hs55,ho⟩:=bnd ho
    refine s_st (zb36 (K:=K) 1 (zo23 hs55) rfl rfl) ?_
    obtain ⟨y56,hy56,ho⟩:=bnd ho
    refine zk29 [1] [0] (fun _ h=>by cases h) hcb hy56 rfl rfl rfl (by decide) (.n rfl) rfl rfl rfl (.t rfl) (.c (.t rfl) .n) ?_
    intro v57
    refine run 2 ?_
    refine wct ho (fun hq58 ho=>?_) fun hq58 ho=>?_
    ·cases ho; exact r_ret (lf [.tuple v57] [0])
    ·refine run 4 ?_
     cases ho; exact s_nil (lf [.tuple v57] [1,0])
   ·cases ho; exact zp1 (lf [.tuple ((untup (gh g51 0)))] [1])
  ·rcases t59 with b61 | b62
   ·have ho:=alt_l ho
    cases ho; exact id (zj11 [0] [.tuple ((untup (gh g60 0)))] (.inl rfl) .n rfl (by decide))
   ·have ho:=alt_r ho
    cases ho; exact id (zj11 [0] [.tuple ((untup (gh g60 0)))] (.inr rfl) .n rfl (by decide))
theorem zy8 {σ τ:Type} {step:σ → (AMove) → Option (σ ⊕ τ)} {yv:AVal} {K:σ ⊕ τ → List AVal → Sx.Obj} (hcb:CbAt ktab yv (fun x=>[.val rAMove (x)]) step K) {s_:σ} {p_1:zn2} {p_2:AMove} {out:((σ ⊕ τ))} (ho:zl3 step s_ p_1 p_2 = some out) (γ0:List AVal):FunM ktab 120 [.raw yv,.val (rPtr (rPtr zl)) p_1,.val (rPtr rAMove) p_2] [(yv,K (.inl s_) γ0)] [] (fun γ=>[(yv,K (out) γ)]) :=
 zp23 (zp8 hcb ho γ0)
instance i109 {n_0 m_1}:FI ktab 109 (za5 n_0 m_1) [.val (rPtr zl) n_0,.val rAMove m_1] (fun out=>[.val (rClo 120 [] [.val (rPtr (rPtr zl)) (out.1),.val (rPtr rAMove) (out.2)]) ()]):=⟨fun out ho=>by
 delta za5 at ho
 refine fn fun _ _=>?_
 refine run 4 ?_
 refine zy1 rfl (.n rfl) rfl (e:=.raw .nilfunc) (fun z fr h s=>⟨_,rfl,by simp only [TE.ok]; rfl⟩) ?_
 refine run 3 ?_
 refine zi29 (.n rfl) rfl rfl .n (.c (.t rfl) (.c (.t rfl) .n)) ?_
 exact w ho⟩
end Go.Ai.TabYtcokdbcdlaofbaaGreat
