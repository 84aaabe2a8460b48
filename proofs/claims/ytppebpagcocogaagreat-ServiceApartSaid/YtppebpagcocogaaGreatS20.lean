/- Written by program: walks through functions. -/
import Derived.Test.YtppebpagcocogaaGreatS11
import Derived.Test.YtppebpagcocogaaGreatS16
import Derived.Test.YtppebpagcocogaaGreatS19
import Derived.Test.YtppebpagcocogaaGreatS17
set_option linter.unusedSimpArgs false
set_option linter.unusedVariables false
set_option linter.unusedSectionVars false
namespace Go.Ai.TabYtppebpagcocogaaGreat
open Go Go.Ai Go.Ai.Sx Go.Proofs
attribute [local irreducible] zq
set_option maxRecDepth 100000
set_option maxHeartbeats 4000000
instance i165 {t_0 x_1 demand_2 slope_3 state_4}:FI ktab 165 (zbO t_0 x_1 demand_2 slope_3 state_4) [.val zbR t_0,.val zr x_1,vI demand_2,vI slope_3,vI state_4] (fun out=>[wI out.1,wI out.2]):=⟨fun out ho=>by
 delta zbO at ho;refine fn fun _ _=>?_;obtain ⟨x3,hx3,ho⟩:=bnd ho;refine gcl ho fun y4 hy4 ho=>?_;refine gcl ho fun y5 hy5 ho=>?_;refine gal fun b6=>?_;refine gal fun b7=>?_;refine gfz 1 zr y5.1 1 [16] ?_;refine gfz 1 zw y5.2.1 0 [17] ?_;exact we ho⟩
instance i167 {a_0 b_1}:FI ktab 167 (zeC a_0 b_1) [.val zw a_0,.val zw b_1] (fun out=>[.val zw out]):=fw
instance i135 {p_0 way_1 t_2 state_3 stops_4}:FI ktab 135 (zej p_0 way_1 t_2 state_3 stops_4) [.val zaf p_0,.val (zf zJ) way_1,.val zbR t_2,vI state_3,.val (zf (zj .i64)) stops_4] (fun out=>[.row zge out.1,wB out.2]):=⟨fun out ho=>by
 delta zej at ho;refine fn fun _ _=>?_;refine gnr zge ?_;obtain ⟨x3,hx3,ho⟩:=bnd ho;refine gal fun b4=>?_;refine gnr zge ?_;obtain ⟨ta,ha,ho⟩:=bnd ho;refine gl2 ha ho [1,3,4,5,7] [] [1,0] (fun s g=>([(12,.raw (.ptr b4 0)),(13,.raw (gh g 0)),(14,vI s.2.1)],[(.ptr b4 0,.box [vI s.2.2.1,vI s.2.2.2]),((gh g 0),.row zge s.1)])) (fun b=>(.exit 0,fun g=>([(12,.raw (.ptr b4 0)),(13,.raw (gh g 0))],[(.ptr b4 0,.box [vI b.2.1,vI b.2.2]),((gh g 0),.row zge b.1)]))) (fun b=>(.ret,fun g=>([(10,.raw (gh g 0)),(11,vB b.2)],[((gh g 0),.row zge b.1)]))) [.nilslice] (fun sb ga _ ho=>?_) (fun bc ho gc=>?_) fun bd ho gc=>?_
 ·refine gct ho (fun hc ho=>?_) fun hc ho=>?_
  ·obtain ⟨xa,hm,ho⟩:=bnd ho;refine gal fun be=>?_;refine gfz 1 zam ((p_0,way_1,t_2,state_3,xa,()):z9) 0 [15] ?_;refine gal fun bb=>?_;obtain ⟨tb,hd,ho⟩:=bnd ho;refine gl2 hd ho [1,3,4,5,7,12,13,14,15,16] [] [0,1,2] (fun s g=>([(17,vI s.1)],[(.ptr bb 0,.box [vI s.2.1,vI 0,vI s.2.2.1,vI s.2.2.2.1,vI s.2.2.2.2.1,vI s.2.2.2.2.2.1,vI s.2.2.2.2.2.2.1,vI s.2.2.2.2.2.2.2.1,vI s.2.2.2.2.2.2.2.2.1,vI s.2.2.2.2.2.2.2.2.2.1]),(.ptr b4 0,.box [vI s.2.2.2.2.2.2.2.2.2.2.1,vI s.2.2.2.2.2.2.2.2.2.2.2]),((gh ga 0),.row zge sb.1)])) (fun b=>(.exit 2,fun g=>([(53,.val zbR b.1),(54,.val zr b.2.1),(55,vI b.2.2.1),(56,.val (zf (zj .i64)) b.2.2.2.1),(57,vI b.2.2.2.2.1),(58,.val (zaQ (zj .i64)) b.2.2.2.2.2.1),(59,vI b.2.2.2.2.2.2.1),(60,vI b.2.2.2.2.2.2.2.1),(61,vB b.2.2.2.2.2.2.2.2.1)],[(.ptr bb 0,.box [vI b.2.2.2.2.2.2.2.2.2.1,vI 0,vI b.2.2.2.2.2.2.2.2.2.2.1,vI b.2.2.2.2.2.2.2.2.2.2.2.1,vI b.2.2.2.2.2.2.2.2.2.2.2.2.1,vI b.2.2.2.2.2.2.2.2.2.2.2.2.2.1,vI b.2.2.2.2.2.2.2.2.2.2.2.2.2.2.1,vI b.2.2.2.2.2.2.2.2.2.2.2.2.2.2.2.1,vI b.2.2.2.2.2.2.2.2.2.2.2.2.2.2.2.2.1,vI b.2.2.2.2.2.2.2.2.2.2.2.2.2.2.2.2.2.1]),(.ptr b4 0,.box [vI b.2.2.2.2.2.2.2.2.2.2.2.2.2.2.2.2.2.2.1,vI b.2.2.2.2.2.2.2.2.2.2.2.2.2.2.2.2.2.2.2]),((gh ga 0),.row zge sb.1)]))) (fun b=>(.ret,fun g=>([(10,.raw (gh g 0)),(11,vB b.2.1)],[((gh g 0),.row zge b.1)]))) [] (fun sa gd _ ho=>?_) (fun ba ho gb=>?_) fun bf ho gb=>?_
   ·refine run 2 ?_;refine zaN [1,5] (by kernel_rfl) ?_;refine wbr ho (fun he ho=>?_) fun he ho=>?_
    ·refine gk ?_;refine wbr ho (fun hf ho=>?_) fun hf ho=>?_
     ·refine gk ?_;refine gnr zge ?_;exact lv [.nilslice] [0] ho
     ·refine gct ho (fun hg ho=>?_) fun hg ho=>?_
      ·refine gnr zge ?_;exact lv [.nilslice] [0] ho
      ·refine glb (sa.2.2.2.2.2.2.2.2.2.2.1,sa.2.2.2.2.2.2.2.2.2.2.2,()) 1 ?_;refine gcl ho fun yf hn ho=>?_;refine gct ho (fun hh ho=>?_) fun hh ho=>?_
       ·refine gnr zge ?_;exact lv [.nilslice] [0] ho
       ·refine run 2 ?_;refine zaN [2] (by kernel_rfl) ?_;refine glb (sa.2.2.2.2.2.2.2.2.2.2.1,sa.2.2.2.2.2.2.2.2.2.2.2,()) 1 ?_;refine gcl ho fun yg hp ho=>?_;refine gcl ho fun yh hr ho=>?_;refine glb (sa.2.2.2.2.2.2.2.2.2.2.1,sa.2.2.2.2.2.2.2.2.2.2.2,()) 1 ?_;refine gcl ho fun yi hs ho=>?_;refine glb (sa.2.2.2.2.2.2.2.2.2.2.1,sa.2.2.2.2.2.2.2.2.2.2.2,()) 1 ?_;refine gcl ho fun yc ht ho=>?_;refine gal fun bg=>?_;refine gal fun bh=>?_;refine gfz 1 zr yc.1 1 [23] ?_;refine gfz 1 zw yc.2.1 0 [24] ?_;refine run 32 ?_;refine zjk (R:=zw) (a:=(sa.2.2.1,sa.2.2.2.1,sa.2.2.2.2.1,sa.2.2.2.2.2.1,sa.2.2.2.2.2.2.1,sa.2.2.2.2.2.2.2.1,())) (off:=2) 0 (fun _ h=>by cases h<;>rfl) iu' zbS (by exact Nat.le_of_ble_eq_true rfl) (.n rfl) rfl rfl (.t rfl) rfl ?_;refine gcl ho fun ya hu ho=>?_;refine run 1 ?_;refine zf4 (off:=2) (es':=[vI ya.1,vI ya.2.1,vI ya.2.2.1,vI ya.2.2.2.1,vI ya.2.2.2.2.1,vI ya.2.2.2.2.2.1]) 0 iu' rfl zbS (by exact Nat.le_of_ble_eq_true rfl) (.n rfl) rfl rfl (.t rfl) (.t rfl) (by rfl) ?_;exact lv [] [0,1,2] ho
    ·refine glb (sa.2.2.2.2.2.2.2.2.2.2.1,sa.2.2.2.2.2.2.2.2.2.2.2,()) 1 ?_;refine gcl ho fun yj hv ho=>?_;obtain ⟨xb,hw,ho⟩:=bnd ho;refine gct ho (fun hi ho=>?_) fun hi ho=>?_
     ·refine wbr ho (fun hj ho=>?_) fun hj ho=>?_
      ·refine gk ?_;refine gnr zge ?_;exact lv [.nilslice] [0] ho
      ·refine gct ho (fun hk ho=>?_) fun hk ho=>?_
       ·refine gnr zge ?_;exact lv [.nilslice] [0] ho
       ·refine glb (sa.2.2.2.2.2.2.2.2.2.2.1,sa.2.2.2.2.2.2.2.2.2.2.2,()) 1 ?_;refine gcl ho fun yk hy ho=>?_;refine gct ho (fun hl ho=>?_) fun hl ho=>?_
        ·refine gnr zge ?_;exact lv [.nilslice] [0] ho
        ·refine run 2 ?_;refine zaN [2] (by kernel_rfl) ?_;refine glb (sa.2.2.2.2.2.2.2.2.2.2.1,sa.2.2.2.2.2.2.2.2.2.2.2,()) 1 ?_;refine gcl ho fun yl hz ho=>?_;refine gcl ho fun ym hA ho=>?_;refine glb (sa.2.2.2.2.2.2.2.2.2.2.1,sa.2.2.2.2.2.2.2.2.2.2.2,()) 1 ?_;refine gcl ho fun yn hB ho=>?_;refine glb (sa.2.2.2.2.2.2.2.2.2.2.1,sa.2.2.2.2.2.2.2.2.2.2.2,()) 1 ?_;refine gcl ho fun yd hC ho=>?_;refine gal fun bi=>?_;refine gal fun bj=>?_;refine gfz 1 zr yd.1 1 [23] ?_;refine gfz 1 zw yd.2.1 0 [24] ?_;refine run 32 ?_;refine zjk (R:=zw) (a:=(sa.2.2.1,sa.2.2.2.1,sa.2.2.2.2.1,sa.2.2.2.2.2.1,sa.2.2.2.2.2.2.1,sa.2.2.2.2.2.2.2.1,())) (off:=2) 0 (fun _ h=>by cases h<;>rfl) iu' zbS (by exact Nat.le_of_ble_eq_true rfl) (.n rfl) rfl rfl (.t rfl) rfl ?_;refine gcl ho fun yb hD ho=>?_;refine run 1 ?_;refine zf4 (off:=2) (es':=[vI yb.1,vI yb.2.1,vI yb.2.2.1,vI yb.2.2.2.1,vI yb.2.2.2.2.1,vI yb.2.2.2.2.2.1]) 0 iu' rfl zbS (by exact Nat.le_of_ble_eq_true rfl) (.n rfl) rfl rfl (.t rfl) (.t rfl) (by rfl) ?_;exact lv [] [0,1,2] ho
     ·exact lv [] [0,1,2] ho
   ·refine glb (ba.2.2.2.2.2.2.2.2.2.2.2.2.2.2.2.2.2.2.1,ba.2.2.2.2.2.2.2.2.2.2.2.2.2.2.2.2.2.2.2,()) 1 ?_;refine gcl ho fun ye hE ho=>?_;refine glb (ba.2.2.2.2.2.2.2.2.2.1,ye,(ba.2.2.2.2.2.2.2.2.2.2.1,ba.2.2.2.2.2.2.2.2.2.2.2.1,ba.2.2.2.2.2.2.2.2.2.2.2.2.1,ba.2.2.2.2.2.2.2.2.2.2.2.2.2.1,ba.2.2.2.2.2.2.2.2.2.2.2.2.2.2.1,ba.2.2.2.2.2.2.2.2.2.2.2.2.2.2.2.1,()),ba.2.2.2.2.2.2.2.2.2.2.2.2.2.2.2.2.1,ba.2.2.2.2.2.2.2.2.2.2.2.2.2.2.2.2.2.1,()) 0 ?_;obtain ⟨xd,hF,ho⟩:=bnd ho;refine gap fun va=>?_;exact lv [va] [2,0] ho
   ·cases ho; exact id (lf [(gh gb 0)] [0])
  ·exact lv [(gh ga 0)] [0,1] ho
 ·refine run 1 ?_;refine zaN [2] (by kernel_rfl) ?_;exact we ho
 ·exact rv ho⟩
instance i104 {p_0 way_1 t_2 state_3 stops_4}:FI ktab 104 (zfC p_0 way_1 t_2 state_3 stops_4) [.val zaf p_0,.val (zf zJ) way_1,.val zbR t_2,vI state_3,.val (zf (zj .i64)) stops_4] (fun out=>[.row (zj .i64) out.1,wB out.2]):=⟨fun out ho=>by
 delta zfC at ho;refine fn fun _ _=>?_;refine gnr (zj .i64) ?_;refine gcl ho fun y1 hy1 ho=>?_;refine gct ho (fun hq2 ho=>?_) fun hq2 ho=>?_
 ·refine gnr (zj .i64) ?_;exact we ho
 ·refine gcl ho fun y3 hy3 ho=>?_;intro v4;show zq ..;refine gnr (zj .i64) ?_;obtain ⟨ta,ha,ho⟩:=bnd ho;refine glp ha [12,13] [] [1,0] (fun s g=>([(14,.raw (gh g 0)),(15,vI s.2)],[(v4,.row zge y3.1),((gh g 0),.row (zj .i64) s.1)])) (fun b=>(.exit 0,fun g=>([(14,.raw (gh g 0))],[((gh g 0),.row (zj .i64) b)]))) [.nilslice] (fun s9 ga _ ho=>?_) fun gb=>?_
  ·refine gct ho (fun hc ho=>?_) fun hc ho=>?_
   ·obtain ⟨xa,hd,ho⟩:=bnd ho;refine run 9 ?_;refine zop 0 (fun _ h=>by cases h<;>rfl) iu' zuh (zft hd).2.2.2 (.n rfl) rfl rfl (.t rfl) rfl ?_;obtain ⟨xb,he,ho⟩:=bnd ho;refine gap fun va=>?_;exact lv [va] [1,0] ho
   ·exact lv [(gh ga 0)] [1] ho
  ·exact we ho⟩
instance i66 {p_0 l_1 home_2}:FI ktab 66 (zcW p_0 l_1 home_2) [.val zaf p_0,.val zbK l_1,vB home_2] (fun out=>[.row (zj .i64) out.1,wB out.2]):=⟨fun out ho=>by
 delta zcW at ho;refine fn fun _ _=>?_;refine gnr (zj .i64) ?_;refine gcl ho fun y1 hy1 ho=>?_;refine gal fun b2=>?_;refine gfz 1 zcF y1 0 [8] ?_;obtain ⟨ca,ha,ho⟩:=bnd ho;refine run 3 ?_;refine gcx ca [3,4,8] [0] (fun t=>(.normal,fun _=>([(55,vB t)],[]))) ?_ fun _=>?_
 ·have ho:=ha;refine gcl ho fun yb hs ho=>?_;refine wbr ho (fun hc ho=>?_) fun hc ho=>?_
  ·exact lv [] [0] ho
  ·refine gcl ho fun yc ht ho=>?_;refine wbr ho (fun hd ho=>?_) fun hd ho=>?_
   ·exact lv [] [0] ho
   ·refine wbr ho (fun he ho=>?_) fun he ho=>?_
    ·exact lv [] [0] ho
    ·obtain ⟨xa,hu,ho⟩:=bnd ho;refine wbr ho (fun hf ho=>?_) fun hf ho=>?_
     ·exact lv [] [0] ho
     ·obtain ⟨xb,hv,ho⟩:=bnd ho;exact lv [] [0] ho
 ·refine gct ho (fun hg ho=>?_) fun hg ho=>?_
  ·refine gnr (zj .i64) ?_;exact we ho
  ·obtain ⟨ta,hh,ho⟩:=bnd ho;refine gl2 hh ho [3,4,8] [] [] (fun s g=>([(9,vI s)],[])) (fun b=>(.exit 0,fun g=>([],[]))) (fun b=>(.ret,fun g=>([(6,.raw (gh g 0)),(7,vB b.2)],[((gh g 0),.row (zj .i64) b.1)]))) [] (fun sa gc _ ho=>?_) (fun ba ho ga=>?_) fun bb ho ga=>?_
   ·refine gct ho (fun hi ho=>?_) fun hi ho=>?_
    ·obtain ⟨xd,hw,ho⟩:=bnd ho;refine gcl ho fun yd hy ho=>?_;refine gcl ho fun ye hz ho=>?_;refine wbr ho (fun hj ho=>?_) fun hj ho=>?_
     ·refine gk ?_;refine gnr (zj .i64) ?_;exact lv [.nilslice] [0] ho
     ·obtain ⟨xe,hA,ho⟩:=bnd ho;refine gcl ho fun yf hB ho=>?_;refine wbr ho (fun hk ho=>?_) fun hk ho=>?_
      ·refine gk ?_;refine gnr (zj .i64) ?_;exact lv [.nilslice] [0] ho
      ·refine wbr ho (fun hl ho=>?_) fun hl ho=>?_
       ·refine run 9 ?_;obtain ⟨xf,hC,xg,hD,ho⟩:=zfX ho;refine gct ho (fun hm ho=>?_) fun hm ho=>?_
        ·refine gnr (zj .i64) ?_;exact lv [.nilslice] [0] ho
        ·exact we ho
       ·refine gk ?_;exact we ho
    ·exact lv [] [] ho
   ·refine gcl ho fun ya hE ho=>?_;intro va;show zq ..;refine gct ho (fun hn ho=>?_) fun hn ho=>?_
    ·refine gnr (zj .i64) ?_;exact we ho
    ·refine gnr (zj .i64) ?_;obtain ⟨tb,hp,ho⟩:=bnd ho;refine glp hp [10] [] [1,0] (fun s g=>([(12,.raw (gh g 0)),(13,vI s.2)],[(va,.row (zj .i64) ya.1),((gh g 0),.row (zj .i64) s.1)])) (fun b=>(.exit 2,fun g=>([(12,.raw (gh g 0))],[((gh g 0),.row (zj .i64) b)]))) [.nilslice] (fun sb gb _ ho=>?_) fun gd=>?_
     ·refine gct ho (fun hr ho=>?_) fun hr ho=>?_
      ·obtain ⟨xh,hF,xi,hG,xj,hH,ho⟩:=zn2 ho;refine gap fun vb=>?_;exact lv [vb] [1,0] ho
      ·exact lv [(gh gb 0)] [1] ho
     ·exact we ho
   ·exact rv ho⟩
instance i37 {p_0 l_1 home_2}:FI ktab 37 (zdm p_0 l_1 home_2) [.val zaf p_0,.val zbK l_1,vB home_2] (fun out=>[.row (zj .i64) out]):=⟨fun out ho=>by
 delta zdm at ho;refine fn fun _ _=>?_;refine run 4 ?_;refine zeH (.n rfl) rfl rfl (.nil (R:=(zj .i64))) ?_;refine gcl ho fun y1 hy1 ho=>?_;intro v2;exact we ho⟩
instance i24 {p_0 l_1 home_2}:FI ktab 24 (zX p_0 l_1 home_2) [.val zaf p_0,.val zbK l_1,vB home_2] (fun out=>[.row (zj .i64) out]):=⟨fun out ho=>by
 delta zX at ho;refine fn fun _ _=>?_;refine gnr (zj .i64) ?_;refine gcl ho fun y1 hy1 ho=>?_;refine gal fun b2=>?_;refine gfz 1 zcF y1 0 [7] ?_;refine gcl ho fun y3 hy3 ho=>?_;intro v4;show zq ..;refine run 4 ?_;refine zwf (R:=(zj .i64)) is' iy' (.n rfl) rfl rfl (.c (.i (by decide) (by decide)) .n) rfl (by decide) ?_;intro v5;obtain ⟨ta,ha,ho⟩:=bnd ho;refine glp ha [7,8] [] [1,0] (fun s g=>([(9,.raw (gh g 0)),(10,vI s.2)],[(v4,.row (zj .i64) y3),((gh g 0),.row (zj .i64) s.1)])) (fun b=>(.exit 0,fun g=>([(9,.raw (gh g 0))],[((gh g 0),.row (zj .i64) b)]))) [v5] (fun sa ga _ ho=>?_) fun gb=>?_
 ·refine gct ho (fun hc ho=>?_) fun hc ho=>?_
  ·refine run 3 ?_;refine zaN [4,8] (by kernel_rfl) ?_;obtain ⟨xa,hd,xb,he,xd,hf,ho⟩:=zn2 ho;obtain ⟨xe,hg,ho⟩:=bnd ho;refine gap fun va=>?_;exact lv [va] [1,0] ho
  ·exact lv [(gh ga 0)] [1] ho
 ·exact we ho⟩
instance i22 {p_0 l_1}:FI ktab 22 (zd2 p_0 l_1) [.val zaf p_0,.val zbK l_1] (fun out=>[wB out]):=⟨fun out ho=>by
 delta zd2 at ho;refine fn fun _ _=>?_;refine gcl ho fun y1 hy1 ho=>?_;refine gct ho (fun hq2 ho=>?_) fun hq2 ho=>?_
 ·exact we ho
 ·obtain ⟨ta,ha,ho⟩:=bnd ho;refine gl2 ha ho [2,3] [] [] (fun s g=>([(5,vI s)],[])) (fun b=>(.exit 0,fun g=>([],[]))) (fun b=>(.ret,fun g=>([(4,vB b)],[]))) [] (fun sa gb _ ho=>?_) (fun ba ho ga=>?_) fun bb ho ga=>?_
  ·refine gct ho (fun hc ho=>?_) fun hc ho=>?_
   ·refine gcl ho fun ya he ho=>?_;intro va;show zq ..;refine gct ho (fun hd ho=>?_) fun hd ho=>?_
    ·exact we ho
    ·refine gcl ho fun yb hf ho=>?_;intro vb;exact we ho
   ·exact lv [] [] ho
  ·exact we ho
  ·exact rv ho⟩
instance i26 {p_0 s_1}:FI ktab 26 (zdn p_0 s_1) [.val zaf p_0,.val zac s_1] (fun out=>[wB out]):=⟨fun out ho=>by
 delta zdn at ho;refine fn fun _ _=>?_;obtain ⟨ta,ha,ho⟩:=bnd ho;refine gl2 ha ho [2,3] [] [] (fun s g=>([(5,vI s)],[])) (fun b=>(.exit 0,fun g=>([],[]))) (fun b=>(.ret,fun g=>([(4,vB b)],[]))) [] (fun s5 g6 _ ho=>?_) (fun ba ho ga=>?_) fun bb ho ga=>?_
 ·exact we ho
 ·obtain ⟨ca,hc,ho⟩:=bnd ho;refine run 1 ?_;refine gcx ca [] [] (fun t=>(.normal,fun _=>([(4,vB t)],[]))) ?_ fun _=>?_
  ·exact we hc
  ·exact rv ho
 ·exact rv ho⟩
instance i27 {p_0 s_1}:FI ktab 27 (zbW p_0 s_1) [.val zaf p_0,.val zac s_1] (fun out=>[wB out]):=⟨fun out ho=>by
 delta zbW at ho;refine fn fun _ _=>?_;obtain ⟨c6,hc6,ho⟩:=bnd ho;refine run 8 ?_;refine gcx c6 [2,3] [] (fun t=>(.normal,fun _=>([(33,vB t)],[]))) ?_ fun _=>?_
 ·exact we hc6
 ·refine gct ho (fun ha ho=>?_) fun ha ho=>?_
  ·exact we ho
  ·obtain ⟨ta,hc,ho⟩:=bnd ho;refine gl2 hc ho [2,3] [] [] (fun s g=>([(5,vI s)],[])) (fun b=>(.exit 0,fun g=>([],[]))) (fun b=>(.ret,fun g=>([(4,vB b)],[]))) [] (fun sa gb _ ho=>?_) (fun ba ho ga=>?_) fun bb ho ga=>?_
   ·refine gct ho (fun hd ho=>?_) fun hd ho=>?_
    ·obtain ⟨xa,hg,ho⟩:=bnd ho;refine gcl ho fun ya hh ho=>?_;refine wbr ho (fun he ho=>?_) fun he ho=>?_
     ·refine gk ?_;exact we ho
     ·obtain ⟨xb,hi,ho⟩:=bnd ho;refine gcl ho fun yb hj ho=>?_;refine wbr ho (fun hf ho=>?_) fun hf ho=>?_
      ·refine gk ?_;exact we ho
      ·refine run 3 ?_;exact we ho
    ·exact lv [] [] ho
   ·exact we ho
   ·exact rv ho⟩
instance i85 {p_0 l_1}:FI ktab 85 (zdo p_0 l_1) [.val zaf p_0,.val (zf zbK) l_1] (fun out=>[.row (zaQ zg) out.1,wB out.2]):=⟨fun out ho=>by
 delta zdo at ho;refine fn fun _ _=>?_;refine gnr (zaQ zg) ?_;refine gcl ho fun y1 hy1 ho=>?_;refine gct ho (fun hq2 ho=>?_) fun hq2 ho=>?_
 ·refine gnr (zaQ zg) ?_;exact we ho
 ·refine gnr (zaQ zg) ?_;obtain ⟨ta,ha,ho⟩:=bnd ho;refine gl2 ha ho [2,15,16] [] [0] (fun s g=>([(6,.raw (gh g 0)),(17,vI s.2)],[((gh g 0),.row (zaQ zg) s.1)])) (fun b=>(.exit 0,fun g=>([(6,.raw (gh g 0))],[((gh g 0),.row (zaQ zg) b)]))) (fun b=>(.ret,fun g=>([(4,.raw (gh g 0)),(5,vB b.2)],[((gh g 0),.row (zaQ zg) b.1)]))) [.nilslice] (fun sa ga _ ho=>?_) (fun ba ho gb=>?_) fun bb ho gb=>?_
  ·refine gct ho (fun hc ho=>?_) fun hc ho=>?_
   ·obtain ⟨xa,hf,ho⟩:=bnd ho;refine gal fun bc=>?_;refine gfz 1 zbK xa 0 [8] ?_;refine gcl ho fun ya hg ho=>?_;refine gct ho (fun hd ho=>?_) fun hd ho=>?_
    ·refine gnr (zaQ zg) ?_;exact lv [.nilslice] [0] ho
    ·obtain ⟨pa,he,ho⟩:=bnd ho;refine run 4 ?_;refine zgz (zcc (n:=30) he rfl) ?_;obtain ⟨xb,hh,ho⟩:=bnd ho;refine gap fun va=>?_;exact lv [va] [0] ho
   ·exact lv [(gh ga 0)] [0] ho
  ·exact we ho
  ·exact rv ho⟩
instance i69 {p_0 s_1}:FI ktab 69 (za8 p_0 s_1) [.val zaf p_0,.val zac s_1] (fun out=>[.val (zf (zaQ zg)) out.1,wB out.2]):=⟨fun out ho=>by
 delta za8 at ho;refine fn fun _ _=>?_;refine run 4 ?_;refine zeH (.n rfl) rfl rfl (.nil (R:=(zaQ zg))) ?_;obtain ⟨c2,hc2,ho⟩:=bnd ho;refine run 4 ?_;refine gcx c2 [2,3] [] (fun t=>(.normal,fun _=>([(23,vB t)],[]))) ?_ fun _=>?_
 ·exact we hc2
 ·refine gct ho (fun hq4 ho=>?_) fun hq4 ho=>?_
  ·refine run 2 ?_;refine zeH (.n rfl) rfl rfl (.nil (R:=(zaQ zg))) ?_;exact we ho
  ·obtain ⟨ta,ha,ho⟩:=bnd ho;refine gl2 ha ho [2,3,25,26] [] [] (fun s g=>([(27,vI s)],[])) (fun b=>(.exit 0,fun g=>([],[]))) (fun b=>(.ret,fun g=>([(4,.val (zf (zaQ zg)) b.1),(5,vB b.2)],[]))) [] (fun sa gb _ ho=>?_) (fun ba ho ga=>?_) fun bb ho ga=>?_
   ·refine gct ho (fun hc ho=>?_) fun hc ho=>?_
    ·obtain ⟨xa,hf,ho⟩:=bnd ho;refine gcl ho fun ya hg ho=>?_;refine wbr ho (fun hd ho=>?_) fun hd ho=>?_
     ·refine gk ?_;refine run 2 ?_;refine zeH (.n rfl) rfl rfl (.nil (R:=(zaQ zg))) ?_;exact we ho
     ·obtain ⟨xb,hh,ho⟩:=bnd ho;refine gcl ho fun yb hi ho=>?_;refine gct ho (fun he ho=>?_) fun he ho=>?_
      ·refine run 2 ?_;refine zeH (.n rfl) rfl rfl (.nil (R:=(zaQ zg))) ?_;exact we ho
      ·exact we ho
    ·exact lv [] [] ho
   ·refine gcl ho fun yc hj ho=>?_;intro va;show zq ..;refine run 5 ?_;cases ho;refine zn1 (zjZ 0 [51,4] rfl rfl ⟨rfl,rfl,trivial⟩) ?_;exact zfx (zdh (.inr rfl) (.v rfl (.v rfl .n)) (by decide))
   ·exact rv ho⟩
end Go.Ai.TabYtppebpagcocogaaGreat
