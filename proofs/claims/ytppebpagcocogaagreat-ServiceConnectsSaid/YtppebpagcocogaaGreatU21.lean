/- Written by program: walks through functions. -/
import Derived.Test.YtppebpagcocogaaGreatU11
import Derived.Test.YtppebpagcocogaaGreatU17
import Derived.Test.YtppebpagcocogaaGreatU20
import Derived.Test.YtppebpagcocogaaGreatU18
set_option linter.unusedSimpArgs false
set_option linter.unusedVariables false
set_option linter.unusedSectionVars false
namespace Go.Ai.TabYtppebpagcocogaaGreat
open Go Go.Ai Go.Ai.Sx Go.Proofs
attribute [local irreducible] zr
set_option maxRecDepth 100000
set_option maxHeartbeats 4000000
instance i165 {t_0 x_1 demand_2 slope_3 state_4}:FI ktab 165 (zbB t_0 x_1 demand_2 slope_3 state_4) [.val zbG t_0,.val zu x_1,vI demand_2,vI slope_3,vI state_4] (λout=>[wI out.1,wI out.2]):=⟨λout ho=>by
 delta zbB at ho;refine fn λ_ _=>?_;obtain ⟨x3,hx3,ho⟩:=bnd ho;refine gcl ho λy4 hy4 ho=>?_;refine gcl ho λy5 hy5 ho=>?_;refine gal λb6=>?_;refine gal λb7=>?_;refine gfz 1 zu y5.1 1 [16] ?_;refine gfz 1 zx y5.2.1 0 [17] ?_;exact we ho⟩
instance i167 {a_0 b_1}:FI ktab 167 (zeq a_0 b_1) [.val zx a_0,.val zx b_1] (λout=>[.val zx out]):=fw
instance i135 {p_0 way_1 t_2 state_3 stops_4}:FI ktab 135 (zd7 p_0 way_1 t_2 state_3 stops_4) [.val zaP p_0,.val (zb zW) way_1,.val zbG t_2,vI state_3,.val (zb (zj .i64)) stops_4] (λout=>[.row zf0 out.1,wB out.2]):=⟨λout ho=>by
 delta zd7 at ho;refine fn λ_ _=>?_;refine gnr zf0 ?_;obtain ⟨x3,hx3,ho⟩:=bnd ho;refine gal λb4=>?_;refine gnr zf0 ?_;obtain ⟨ta,ha,ho⟩:=bnd ho;refine gl2 ha ho [1,3,4,5,7] [] [1,0] (λs g=>([(12,.raw (.ptr b4 0)),(13,.raw (gh g 0)),(14,vI s.2.1)],[(.ptr b4 0,.box [vI s.2.2.1,vI s.2.2.2]),((gh g 0),.row zf0 s.1)])) (λb=>(.exit 0,λg=>([(12,.raw (.ptr b4 0)),(13,.raw (gh g 0))],[(.ptr b4 0,.box [vI b.2.1,vI b.2.2]),((gh g 0),.row zf0 b.1)]))) (λb=>(.ret,λg=>([(10,.raw (gh g 0)),(11,vB b.2)],[((gh g 0),.row zf0 b.1)]))) [.nilslice] (λsb ga _ ho=>?_) (λbc ho gc=>?_) λbd ho gc=>?_
 . refine gct ho (λhc ho=>?_) λhc ho=>?_
   . obtain ⟨xa,hm,ho⟩:=bnd ho;refine gal λbe=>?_;refine gfz 1 zac ((p_0,way_1,t_2,state_3,xa,()):zY) 0 [15] ?_;refine gal λbb=>?_;obtain ⟨tb,hd,ho⟩:=bnd ho;refine gl2 hd ho [1,3,4,5,7,12,13,14,15,16] [] [0,1,2] (λs g=>([(17,vI s.1)],[(.ptr bb 0,.box [vI s.2.1,vI 0,vI s.2.2.1,vI s.2.2.2.1,vI s.2.2.2.2.1,vI s.2.2.2.2.2.1,vI s.2.2.2.2.2.2.1,vI s.2.2.2.2.2.2.2.1,vI s.2.2.2.2.2.2.2.2.1,vI s.2.2.2.2.2.2.2.2.2.1]),(.ptr b4 0,.box [vI s.2.2.2.2.2.2.2.2.2.2.1,vI s.2.2.2.2.2.2.2.2.2.2.2]),((gh ga 0),.row zf0 sb.1)])) (λb=>(.exit 2,λg=>([(53,.val zbG b.1),(54,.val zu b.2.1),(55,vI b.2.2.1),(56,.val (zb (zj .i64)) b.2.2.2.1),(57,vI b.2.2.2.2.1),(58,.val (z5 (zj .i64)) b.2.2.2.2.2.1),(59,vI b.2.2.2.2.2.2.1),(60,vI b.2.2.2.2.2.2.2.1),(61,vB b.2.2.2.2.2.2.2.2.1)],[(.ptr bb 0,.box [vI b.2.2.2.2.2.2.2.2.2.1,vI 0,vI b.2.2.2.2.2.2.2.2.2.2.1,vI b.2.2.2.2.2.2.2.2.2.2.2.1,vI b.2.2.2.2.2.2.2.2.2.2.2.2.1,vI b.2.2.2.2.2.2.2.2.2.2.2.2.2.1,vI b.2.2.2.2.2.2.2.2.2.2.2.2.2.2.1,vI b.2.2.2.2.2.2.2.2.2.2.2.2.2.2.2.1,vI b.2.2.2.2.2.2.2.2.2.2.2.2.2.2.2.2.1,vI b.2.2.2.2.2.2.2.2.2.2.2.2.2.2.2.2.2.1]),(.ptr b4 0,.box [vI b.2.2.2.2.2.2.2.2.2.2.2.2.2.2.2.2.2.2.1,vI b.2.2.2.2.2.2.2.2.2.2.2.2.2.2.2.2.2.2.2]),((gh ga 0),.row zf0 sb.1)]))) (λb=>(.ret,λg=>([(10,.raw (gh g 0)),(11,vB b.2.1)],[((gh g 0),.row zf0 b.1)]))) [] (λsa gd _ ho=>?_) (λba ho gb=>?_) λbf ho gb=>?_
     . refine run 2 ?_;refine zar [1,5] (by kernel_rfl) ?_;refine wbr ho (λhe ho=>?_) λhe ho=>?_
       . refine gk ?_;refine wbr ho (λhf ho=>?_) λhf ho=>?_
         . refine gk ?_;refine gnr zf0 ?_;exact lv [.nilslice] [0] ho
         . refine gct ho (λhg ho=>?_) λhg ho=>?_
           . refine gnr zf0 ?_;exact lv [.nilslice] [0] ho
           . refine glb (sa.2.2.2.2.2.2.2.2.2.2.1,sa.2.2.2.2.2.2.2.2.2.2.2,()) 1 ?_;refine gcl ho λyf hn ho=>?_;refine gct ho (λhh ho=>?_) λhh ho=>?_
             . refine gnr zf0 ?_;exact lv [.nilslice] [0] ho
             . refine run 2 ?_;refine zar [2] (by kernel_rfl) ?_;refine glb (sa.2.2.2.2.2.2.2.2.2.2.1,sa.2.2.2.2.2.2.2.2.2.2.2,()) 1 ?_;refine gcl ho λyg hp ho=>?_;refine gcl ho λyh hr ho=>?_;refine glb (sa.2.2.2.2.2.2.2.2.2.2.1,sa.2.2.2.2.2.2.2.2.2.2.2,()) 1 ?_;refine gcl ho λyi hs ho=>?_;refine glb (sa.2.2.2.2.2.2.2.2.2.2.1,sa.2.2.2.2.2.2.2.2.2.2.2,()) 1 ?_;refine gcl ho λyc ht ho=>?_;refine gal λbg=>?_;refine gal λbh=>?_;refine gfz 1 zu yc.1 1 [23] ?_;refine gfz 1 zx yc.2.1 0 [24] ?_;refine run 32 ?_;refine zjk (R:=zx) (a:=(sa.2.2.1,sa.2.2.2.1,sa.2.2.2.2.1,sa.2.2.2.2.2.1,sa.2.2.2.2.2.2.1,sa.2.2.2.2.2.2.2.1,())) (off:=2) 0 (λ_ h=>by cases h<;>rfl) iu' zbH (by exact Nat.le_of_ble_eq_true rfl) (.n rfl) rfl rfl (.t rfl) rfl ?_;refine gcl ho λya hu ho=>?_;refine run 1 ?_;refine zfQ (off:=2) (es':=[vI ya.1,vI ya.2.1,vI ya.2.2.1,vI ya.2.2.2.1,vI ya.2.2.2.2.1,vI ya.2.2.2.2.2.1]) 0 iu' rfl zbH (by exact Nat.le_of_ble_eq_true rfl) (.n rfl) rfl rfl (.t rfl) (.t rfl) (by rfl) ?_;exact lv [] [0,1,2] ho
       . refine glb (sa.2.2.2.2.2.2.2.2.2.2.1,sa.2.2.2.2.2.2.2.2.2.2.2,()) 1 ?_;refine gcl ho λyj hv ho=>?_;obtain ⟨xb,hw,ho⟩:=bnd ho;refine gct ho (λhi ho=>?_) λhi ho=>?_
         . refine wbr ho (λhj ho=>?_) λhj ho=>?_
           . refine gk ?_;refine gnr zf0 ?_;exact lv [.nilslice] [0] ho
           . refine gct ho (λhk ho=>?_) λhk ho=>?_
             . refine gnr zf0 ?_;exact lv [.nilslice] [0] ho
             . refine glb (sa.2.2.2.2.2.2.2.2.2.2.1,sa.2.2.2.2.2.2.2.2.2.2.2,()) 1 ?_;refine gcl ho λyk hy ho=>?_;refine gct ho (λhl ho=>?_) λhl ho=>?_
               . refine gnr zf0 ?_;exact lv [.nilslice] [0] ho
               . refine run 2 ?_;refine zar [2] (by kernel_rfl) ?_;refine glb (sa.2.2.2.2.2.2.2.2.2.2.1,sa.2.2.2.2.2.2.2.2.2.2.2,()) 1 ?_;refine gcl ho λyl hz ho=>?_;refine gcl ho λym hA ho=>?_;refine glb (sa.2.2.2.2.2.2.2.2.2.2.1,sa.2.2.2.2.2.2.2.2.2.2.2,()) 1 ?_;refine gcl ho λyn hB ho=>?_;refine glb (sa.2.2.2.2.2.2.2.2.2.2.1,sa.2.2.2.2.2.2.2.2.2.2.2,()) 1 ?_;refine gcl ho λyd hC ho=>?_;refine gal λbi=>?_;refine gal λbj=>?_;refine gfz 1 zu yd.1 1 [23] ?_;refine gfz 1 zx yd.2.1 0 [24] ?_;refine run 32 ?_;refine zjk (R:=zx) (a:=(sa.2.2.1,sa.2.2.2.1,sa.2.2.2.2.1,sa.2.2.2.2.2.1,sa.2.2.2.2.2.2.1,sa.2.2.2.2.2.2.2.1,())) (off:=2) 0 (λ_ h=>by cases h<;>rfl) iu' zbH (by exact Nat.le_of_ble_eq_true rfl) (.n rfl) rfl rfl (.t rfl) rfl ?_;refine gcl ho λyb hD ho=>?_;refine run 1 ?_;refine zfQ (off:=2) (es':=[vI yb.1,vI yb.2.1,vI yb.2.2.1,vI yb.2.2.2.1,vI yb.2.2.2.2.1,vI yb.2.2.2.2.2.1]) 0 iu' rfl zbH (by exact Nat.le_of_ble_eq_true rfl) (.n rfl) rfl rfl (.t rfl) (.t rfl) (by rfl) ?_;exact lv [] [0,1,2] ho
         . exact lv [] [0,1,2] ho
     . refine glb (ba.2.2.2.2.2.2.2.2.2.2.2.2.2.2.2.2.2.2.1,ba.2.2.2.2.2.2.2.2.2.2.2.2.2.2.2.2.2.2.2,()) 1 ?_;refine gcl ho λye hE ho=>?_;refine glb (ba.2.2.2.2.2.2.2.2.2.1,ye,(ba.2.2.2.2.2.2.2.2.2.2.1,ba.2.2.2.2.2.2.2.2.2.2.2.1,ba.2.2.2.2.2.2.2.2.2.2.2.2.1,ba.2.2.2.2.2.2.2.2.2.2.2.2.2.1,ba.2.2.2.2.2.2.2.2.2.2.2.2.2.2.1,ba.2.2.2.2.2.2.2.2.2.2.2.2.2.2.2.1,()),ba.2.2.2.2.2.2.2.2.2.2.2.2.2.2.2.2.1,ba.2.2.2.2.2.2.2.2.2.2.2.2.2.2.2.2.2.1,()) 0 ?_;obtain ⟨xd,hF,ho⟩:=bnd ho;refine gap λva=>?_;exact lv [va] [2,0] ho
     . cases ho; exact id (lf [(gh gb 0)] [0])
   . exact lv [(gh ga 0)] [0,1] ho
 . refine run 1 ?_;refine zar [2] (by kernel_rfl) ?_;exact we ho
 . exact rv ho⟩
instance i104 {p_0 way_1 t_2 state_3 stops_4}:FI ktab 104 (zfr p_0 way_1 t_2 state_3 stops_4) [.val zaP p_0,.val (zb zW) way_1,.val zbG t_2,vI state_3,.val (zb (zj .i64)) stops_4] (λout=>[.row (zj .i64) out.1,wB out.2]):=⟨λout ho=>by
 delta zfr at ho;refine fn λ_ _=>?_;refine gnr (zj .i64) ?_;refine gcl ho λy1 hy1 ho=>?_;refine gct ho (λhq2 ho=>?_) λhq2 ho=>?_
 . refine gnr (zj .i64) ?_;exact we ho
 . refine gcl ho λy3 hy3 ho=>?_;intro v4;show zr ..;refine gnr (zj .i64) ?_;obtain ⟨ta,ha,ho⟩:=bnd ho;refine glp ha [12,13] [] [1,0] (λs g=>([(14,.raw (gh g 0)),(15,vI s.2)],[(v4,.row zf0 y3.1),((gh g 0),.row (zj .i64) s.1)])) (λb=>(.exit 0,λg=>([(14,.raw (gh g 0))],[((gh g 0),.row (zj .i64) b)]))) [.nilslice] (λs9 ga _ ho=>?_) λgb=>?_
   . refine gct ho (λhc ho=>?_) λhc ho=>?_
     . obtain ⟨xa,hd,ho⟩:=bnd ho;refine run 9 ?_;refine zot 0 (λ_ h=>by cases h<;>rfl) iu' zut (zfm hd).2.2.2 (.n rfl) rfl rfl (.t rfl) rfl ?_;obtain ⟨xb,he,ho⟩:=bnd ho;refine gap λva=>?_;exact lv [va] [1,0] ho
     . exact lv [(gh ga 0)] [1] ho
   . exact we ho⟩
instance i66 {p_0 l_1 home_2}:FI ktab 66 (zcL p_0 l_1 home_2) [.val zaP p_0,.val zav l_1,vB home_2] (λout=>[.row (zj .i64) out.1,wB out.2]):=⟨λout ho=>by
 delta zcL at ho;refine fn λ_ _=>?_;refine gnr (zj .i64) ?_;refine gcl ho λy1 hy1 ho=>?_;refine gal λb2=>?_;refine gfz 1 zcx y1 0 [8] ?_;obtain ⟨ca,ha,ho⟩:=bnd ho;refine run 3 ?_;refine gcx ca [3,4,8] [0] (λt=>(.normal,λ_=>([(55,vB t)],[]))) ?_ λ_=>?_
 . have ho:=ha;refine gcl ho λyb hs ho=>?_;refine wbr ho (λhc ho=>?_) λhc ho=>?_
   . exact lv [] [0] ho
   . refine gcl ho λyc ht ho=>?_;refine wbr ho (λhd ho=>?_) λhd ho=>?_
     . exact lv [] [0] ho
     . refine wbr ho (λhe ho=>?_) λhe ho=>?_
       . exact lv [] [0] ho
       . obtain ⟨xa,hu,ho⟩:=bnd ho;refine wbr ho (λhf ho=>?_) λhf ho=>?_
         . exact lv [] [0] ho
         . obtain ⟨xb,hv,ho⟩:=bnd ho;exact lv [] [0] ho
 . refine gct ho (λhg ho=>?_) λhg ho=>?_
   . refine gnr (zj .i64) ?_;exact we ho
   . obtain ⟨ta,hh,ho⟩:=bnd ho;refine gl2 hh ho [3,4,8] [] [] (λs g=>([(9,vI s)],[])) (λb=>(.exit 0,λg=>([],[]))) (λb=>(.ret,λg=>([(6,.raw (gh g 0)),(7,vB b.2)],[((gh g 0),.row (zj .i64) b.1)]))) [] (λsa gc _ ho=>?_) (λba ho ga=>?_) λbb ho ga=>?_
     . refine gct ho (λhi ho=>?_) λhi ho=>?_
       . obtain ⟨xd,hw,ho⟩:=bnd ho;refine gcl ho λyd hy ho=>?_;refine gcl ho λye hz ho=>?_;refine wbr ho (λhj ho=>?_) λhj ho=>?_
         . refine gk ?_;refine gnr (zj .i64) ?_;exact lv [.nilslice] [0] ho
         . obtain ⟨xe,hA,ho⟩:=bnd ho;refine gcl ho λyf hB ho=>?_;refine wbr ho (λhk ho=>?_) λhk ho=>?_
           . refine gk ?_;refine gnr (zj .i64) ?_;exact lv [.nilslice] [0] ho
           . refine wbr ho (λhl ho=>?_) λhl ho=>?_
             . refine run 9 ?_;obtain ⟨xf,hC,xg,hD,ho⟩:=zhr ho;refine gct ho (λhm ho=>?_) λhm ho=>?_
               . refine gnr (zj .i64) ?_;exact lv [.nilslice] [0] ho
               . exact we ho
             . refine gk ?_;exact we ho
       . exact lv [] [] ho
     . refine gcl ho λya hE ho=>?_;intro va;show zr ..;refine gct ho (λhn ho=>?_) λhn ho=>?_
       . refine gnr (zj .i64) ?_;exact we ho
       . refine gnr (zj .i64) ?_;obtain ⟨tb,hp,ho⟩:=bnd ho;refine glp hp [10] [] [1,0] (λs g=>([(12,.raw (gh g 0)),(13,vI s.2)],[(va,.row (zj .i64) ya.1),((gh g 0),.row (zj .i64) s.1)])) (λb=>(.exit 2,λg=>([(12,.raw (gh g 0))],[((gh g 0),.row (zj .i64) b)]))) [.nilslice] (λsb gb _ ho=>?_) λgd=>?_
         . refine gct ho (λhr ho=>?_) λhr ho=>?_
           . obtain ⟨xh,hF,xi,hG,xj,hH,ho⟩:=zvJ ho;refine gap λvb=>?_;exact lv [vb] [1,0] ho
           . exact lv [(gh gb 0)] [1] ho
         . exact we ho
     . exact rv ho⟩
instance i37 {p_0 l_1 home_2}:FI ktab 37 (zeJ p_0 l_1 home_2) [.val zaP p_0,.val zav l_1,vB home_2] (λout=>[.row (zj .i64) out]):=⟨λout ho=>by
 delta zeJ at ho;refine fn λ_ _=>?_;refine run 4 ?_;refine zdY (.n rfl) rfl rfl (.nil (R:=(zj .i64))) ?_;refine gcl ho λy1 hy1 ho=>?_;intro v2;exact we ho⟩
instance i24 {p_0 l_1 home_2}:FI ktab 24 (zai p_0 l_1 home_2) [.val zaP p_0,.val zav l_1,vB home_2] (λout=>[.row (zj .i64) out]):=⟨λout ho=>by
 delta zai at ho;refine fn λ_ _=>?_;refine gnr (zj .i64) ?_;refine gcl ho λy1 hy1 ho=>?_;refine gal λb2=>?_;refine gfz 1 zcx y1 0 [7] ?_;refine gcl ho λy3 hy3 ho=>?_;intro v4;show zr ..;refine run 4 ?_;refine zyD (R:=(zj .i64)) is' iy' (.n rfl) rfl rfl (.c (.i (by decide) (by decide)) .n) rfl (by decide) ?_;intro v5;obtain ⟨ta,ha,ho⟩:=bnd ho;refine glp ha [7,8] [] [1,0] (λs g=>([(9,.raw (gh g 0)),(10,vI s.2)],[(v4,.row (zj .i64) y3),((gh g 0),.row (zj .i64) s.1)])) (λb=>(.exit 0,λg=>([(9,.raw (gh g 0))],[((gh g 0),.row (zj .i64) b)]))) [v5] (λsa ga _ ho=>?_) λgb=>?_
 . refine gct ho (λhc ho=>?_) λhc ho=>?_
   . refine run 3 ?_;refine zar [4,8] (by kernel_rfl) ?_;obtain ⟨xa,hd,xb,he,xd,hf,ho⟩:=zvJ ho;obtain ⟨xe,hg,ho⟩:=bnd ho;refine gap λva=>?_;exact lv [va] [1,0] ho
   . exact lv [(gh ga 0)] [1] ho
 . exact we ho⟩
instance i22 {p_0 l_1}:FI ktab 22 (zdQ p_0 l_1) [.val zaP p_0,.val zav l_1] (λout=>[wB out]):=⟨λout ho=>by
 delta zdQ at ho;refine fn λ_ _=>?_;refine gcl ho λy1 hy1 ho=>?_;refine gct ho (λhq2 ho=>?_) λhq2 ho=>?_
 . exact we ho
 . obtain ⟨ta,ha,ho⟩:=bnd ho;refine gl2 ha ho [2,3] [] [] (λs g=>([(5,vI s)],[])) (λb=>(.exit 0,λg=>([],[]))) (λb=>(.ret,λg=>([(4,vB b)],[]))) [] (λsa gb _ ho=>?_) (λba ho ga=>?_) λbb ho ga=>?_
   . refine gct ho (λhc ho=>?_) λhc ho=>?_
     . refine gcl ho λya he ho=>?_;intro va;show zr ..;refine gct ho (λhd ho=>?_) λhd ho=>?_
       . exact we ho
       . refine gcl ho λyb hf ho=>?_;intro vb;exact we ho
     . exact lv [] [] ho
   . exact we ho
   . exact rv ho⟩
instance i68 {p_0 l_1 home_2}:FI ktab 68 (zcj p_0 l_1 home_2) [.val zaP p_0,.val zav l_1,vB home_2] (λout=>[wI out]):=⟨λout ho=>by
 delta zcj at ho;refine fn λ_ _=>?_;refine gcl ho λy1 hy1 ho=>?_;intro v2;exact we ho⟩
instance i25 {p_0 l_1}:FI ktab 25 (zd8 p_0 l_1) [.val zaP p_0,.val zav l_1] (λout=>[wI out]):=fw
instance i26 {p_0 s_1}:FI ktab 26 (zer p_0 s_1) [.val zaP p_0,.val zbM s_1] (λout=>[wB out]):=⟨λout ho=>by
 delta zer at ho;refine fn λ_ _=>?_;obtain ⟨ta,ha,ho⟩:=bnd ho;refine gl2 ha ho [2,3] [] [] (λs g=>([(5,vI s)],[])) (λb=>(.exit 0,λg=>([],[]))) (λb=>(.ret,λg=>([(4,vB b)],[]))) [] (λs5 g6 _ ho=>?_) (λba ho ga=>?_) λbb ho ga=>?_
 . exact we ho
 . obtain ⟨ca,hc,ho⟩:=bnd ho;refine run 1 ?_;refine gcx ca [] [] (λt=>(.normal,λ_=>([(4,vB t)],[]))) ?_ λ_=>?_
   . exact we hc
   . exact rv ho
 . exact rv ho⟩
instance i27 {p_0 s_1}:FI ktab 27 (zcA p_0 s_1) [.val zaP p_0,.val zbM s_1] (λout=>[wB out]):=⟨λout ho=>by
 delta zcA at ho;refine fn λ_ _=>?_;obtain ⟨c6,hc6,ho⟩:=bnd ho;refine run 8 ?_;refine gcx c6 [2,3] [] (λt=>(.normal,λ_=>([(33,vB t)],[]))) ?_ λ_=>?_
 . exact we hc6
 . refine gct ho (λha ho=>?_) λha ho=>?_
   . exact we ho
   . obtain ⟨ta,hc,ho⟩:=bnd ho;refine gl2 hc ho [2,3] [] [] (λs g=>([(5,vI s)],[])) (λb=>(.exit 0,λg=>([],[]))) (λb=>(.ret,λg=>([(4,vB b)],[]))) [] (λsa gb _ ho=>?_) (λba ho ga=>?_) λbb ho ga=>?_
     . refine gct ho (λhd ho=>?_) λhd ho=>?_
       . obtain ⟨xa,hg,ho⟩:=bnd ho;refine gcl ho λya hh ho=>?_;refine wbr ho (λhe ho=>?_) λhe ho=>?_
         . refine gk ?_;exact we ho
         . obtain ⟨xb,hi,ho⟩:=bnd ho;refine gcl ho λyb hj ho=>?_;refine wbr ho (λhf ho=>?_) λhf ho=>?_
           . refine gk ?_;exact we ho
           . refine run 3 ?_;exact we ho
       . exact lv [] [] ho
     . exact we ho
     . exact rv ho⟩
instance i85 {p_0 l_1}:FI ktab 85 (zcB p_0 l_1) [.val zaP p_0,.val (zb zav) l_1] (λout=>[.row (z5 zg) out.1,wB out.2]):=⟨λout ho=>by
 delta zcB at ho;refine fn λ_ _=>?_;refine gnr (z5 zg) ?_;refine gcl ho λy1 hy1 ho=>?_;refine gct ho (λhq2 ho=>?_) λhq2 ho=>?_
 . refine gnr (z5 zg) ?_;exact we ho
 . refine gnr (z5 zg) ?_;obtain ⟨ta,ha,ho⟩:=bnd ho;refine gl2 ha ho [2,15,16] [] [0] (λs g=>([(6,.raw (gh g 0)),(17,vI s.2)],[((gh g 0),.row (z5 zg) s.1)])) (λb=>(.exit 0,λg=>([(6,.raw (gh g 0))],[((gh g 0),.row (z5 zg) b)]))) (λb=>(.ret,λg=>([(4,.raw (gh g 0)),(5,vB b.2)],[((gh g 0),.row (z5 zg) b.1)]))) [.nilslice] (λsa ga _ ho=>?_) (λba ho gb=>?_) λbb ho gb=>?_
   . refine gct ho (λhc ho=>?_) λhc ho=>?_
     . obtain ⟨xa,hf,ho⟩:=bnd ho;refine gal λbc=>?_;refine gfz 1 zav xa 0 [8] ?_;refine gcl ho λya hg ho=>?_;refine gct ho (λhd ho=>?_) λhd ho=>?_
       . refine gnr (z5 zg) ?_;exact lv [.nilslice] [0] ho
       . obtain ⟨pa,he,ho⟩:=bnd ho;refine run 4 ?_;refine ze8 (zcW (n:=30) he rfl) ?_;obtain ⟨xb,hh,ho⟩:=bnd ho;refine gap λva=>?_;exact lv [va] [0] ho
     . exact lv [(gh ga 0)] [0] ho
   . exact we ho
   . exact rv ho⟩
instance i69 {p_0 s_1}:FI ktab 69 (zb2 p_0 s_1) [.val zaP p_0,.val zbM s_1] (λout=>[.val (zb (z5 zg)) out.1,wB out.2]):=⟨λout ho=>by
 delta zb2 at ho;refine fn λ_ _=>?_;refine run 4 ?_;refine zdY (.n rfl) rfl rfl (.nil (R:=(z5 zg))) ?_;obtain ⟨c4,hc4,ho⟩:=bnd ho;refine run 4 ?_;refine gcx c4 [2,3] [] (λt=>(.normal,λ_=>([(23,vB t)],[]))) ?_ λ_=>?_
 . exact we hc4
 . refine gct ho (λhq6 ho=>?_) λhq6 ho=>?_
   . refine run 2 ?_;refine zdY (.n rfl) rfl rfl (.nil (R:=(z5 zg))) ?_;exact we ho
   . obtain ⟨ta,ha,ho⟩:=bnd ho;refine gl2 ha ho [2,3,25,26] [] [] (λs g=>([(27,vI s)],[])) (λb=>(.exit 0,λg=>([],[]))) (λb=>(.ret,λg=>([(4,.val (zb (z5 zg)) b.1),(5,vB b.2)],[]))) [] (λsa gb _ ho=>?_) (λba ho ga=>?_) λbb ho ga=>?_
     . refine gct ho (λhc ho=>?_) λhc ho=>?_
       . obtain ⟨xa,hf,ho⟩:=bnd ho;refine gcl ho λya hg ho=>?_;refine wbr ho (λhd ho=>?_) λhd ho=>?_
         . refine gk ?_;refine run 2 ?_;refine zdY (.n rfl) rfl rfl (.nil (R:=(z5 zg))) ?_;exact we ho
         . obtain ⟨xb,hh,ho⟩:=bnd ho;refine gcl ho λyb hi ho=>?_;refine gct ho (λhe ho=>?_) λhe ho=>?_
           . refine run 2 ?_;refine zdY (.n rfl) rfl rfl (.nil (R:=(z5 zg))) ?_;exact we ho
           . exact we ho
       . exact lv [] [] ho
     . refine gcl ho λyc hj ho=>?_;intro va;show zr ..;refine run 5 ?_;cases ho;refine znh (zfP 0 [51,4] rfl rfl ⟨rfl,rfl,trivial⟩) ?_;exact zd0 (zcT (.inr rfl) (.v rfl (.v rfl .n)) (by decide))
     . exact rv ho⟩
instance i71 {all_0 l_1}:FI ktab 71 (zaN all_0 l_1) [.val (zb (z5 zg)) all_0,.val (zb zk) l_1] (λout=>[wB out]):=⟨λout ho=>by
 delta zaN at ho;refine fn λ_ _=>?_;obtain ⟨ta,ha,ho⟩:=bnd ho;refine gl2 ha ho [0,1,9,10] [] [] (λs g=>([(11,vI s)],[])) (λb=>(.exit 0,λg=>([],[]))) (λb=>(.ret,λg=>([(4,vB b)],[]))) [] (λsa gb _ ho=>?_) (λba ho ga=>?_) λbb ho ga=>?_
 . refine gct ho (λhc ho=>?_) λhc ho=>?_
   . obtain ⟨xa,hk,ho⟩:=bnd ho;refine gal λbc=>?_;refine gfz 1 zk xa 0 [6] ?_;refine gcl ho λya hl ho=>?_;refine wbr ho (λhd ho=>?_) λhd ho=>?_
     . refine gk ?_;exact we ho
     . refine gcl ho λyb hm ho=>?_;refine wbr ho (λhe ho=>?_) λhe ho=>?_
       . refine gk ?_;exact we ho
       . refine gcl ho λyc hn ho=>?_;refine wbr ho (λhf ho=>?_) λhf ho=>?_
         . refine gk ?_;exact we ho
         . refine gct ho (λhg ho=>?_) λhg ho=>?_
           . exact we ho
           . obtain ⟨xb,hp,ho⟩:=bnd ho;refine gcl ho λyd hr ho=>?_;obtain ⟨xd,hh,ho⟩:=bnd ho;refine run 2 ?_;refine zbT ia' hh (.n rfl) rfl rfl (.t rfl) (.t rfl) ?_;obtain ⟨xe,hs,ho⟩:=bnd ho;refine gcl ho λye ht ho=>?_;obtain ⟨xf,hi,ho⟩:=bnd ho;refine run 2 ?_;refine zbT ia' hi (.n rfl) rfl rfl (.t rfl) (.t rfl) ?_;refine gcl ho λyf hu ho=>?_;refine wbr ho (λhj ho=>?_) λhj ho=>?_
             . refine gk ?_;exact we ho
             . exact we ho
   . exact lv [] [] ho
 . exact we ho
 . exact rv ho⟩
instance i107 {r_0 side_1 headway_2 offset_3}:FI ktab 107 (zbm r_0 side_1 headway_2 offset_3) [.val (z5 zg) r_0,vI side_1,vI headway_2,vI offset_3] (λout=>[wI out]):=fw
instance i108 {n_0 h_1}:FI ktab 108 (zdF n_0 h_1) [vI n_0,vI h_1] (λout=>[wI out]):=fw
instance i72 {all_0 headway_1 offsets_2 c_3}:FI ktab 72 (zbC all_0 headway_1 offsets_2 c_3) [.val (zb (z5 zg)) all_0,vI headway_1,.val (zb (zj .i64)) offsets_2,.val zk c_3] (λout=>[wI out]):=⟨λout ho=>by
 delta zbC at ho;refine fn λ_ _=>?_;obtain ⟨x3,hx3,x4,hx4,ho⟩:=zhr ho;refine gcl ho λy7 hy7 ho=>?_;refine gcl ho λy8 hy8 ho=>?_;obtain ⟨xa,hd,ho⟩:=bnd ho;refine gcl ho λya he ho=>?_;obtain ⟨xb,ha,ho⟩:=bnd ho;refine run 4 ?_;refine zbT ia' ha (.n rfl) rfl rfl (.t rfl) (.t rfl) ?_;obtain ⟨xd,hf,ho⟩:=bnd ho;refine gcl ho λyb hg ho=>?_;obtain ⟨xe,hh,xf,hi,xg,hj,ho⟩:=zvJ ho;refine gcl ho λyc hk ho=>?_;obtain ⟨xh,hc,ho⟩:=bnd ho;refine run 4 ?_;refine zbT ia' hc (.n rfl) rfl rfl (.t rfl) (.t rfl) ?_;exact we ho⟩
instance i39 {a_0 n_1}:FI ktab 39 (zes a_0 n_1) [vI a_0,vI n_1] (λout=>[wI out]):=fw
instance i78 {p_0 l_1 h_2}:FI ktab 78 (zfD p_0 l_1 h_2) [.val zaP p_0,.val zav l_1,vI h_2] (λout=>[wI out]):=fw
instance i38 {p_0 s_1 line_2 home_3}:FI ktab 38 (zdR p_0 s_1 line_2 home_3) [.val zaP p_0,.val zbM s_1,vI line_2,vB home_3] (λout=>[wI out]):=⟨λout ho=>by
 delta zdR at ho;refine fn λ_ _=>?_;obtain ⟨x1,hx1,ho⟩:=bnd ho;refine gal λb2=>?_;refine gfz 1 zav x1 0 [9] ?_;exact we ho⟩
instance i75 {p_0 s_1 c_2}:FI ktab 75 (zcQ p_0 s_1 c_2) [.val zaP p_0,.val zbM s_1,.val zk c_2] (λout=>[wI out]):=⟨λout ho=>by
 delta zcQ at ho;refine fn λ_ _=>?_;obtain ⟨x5,hx5,x6,hx6,ho⟩:=zhr ho;refine gal λb7=>?_;refine gal λb8=>?_;refine gfz 1 zav x5 1 [7] ?_;refine gfz 1 zav x6 0 [8] ?_;refine run 2 ?_;refine zar [15] (by kernel_rfl) ?_;refine gcl ho λya ha ho=>?_;refine gcl ho λyb hc ho=>?_;intro va;show zr ..;obtain ⟨xa,hd,ho⟩:=bnd ho;refine gcl ho λyc he ho=>?_;obtain ⟨xb,hf,ho⟩:=bnd ho;refine run 9 ?_;refine zar [15] (by kernel_rfl) ?_;refine gcl ho λyd hg ho=>?_;refine gcl ho λye hh ho=>?_;intro vb;exact we ho⟩
end Go.Ai.TabYtppebpagcocogaaGreat