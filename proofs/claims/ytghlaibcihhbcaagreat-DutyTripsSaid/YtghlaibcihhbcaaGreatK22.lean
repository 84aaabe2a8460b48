/- Written by program: walks through functions. -/
import Derived.Test.YtghlaibcihhbcaaGreatK11
import Derived.Test.YtghlaibcihhbcaaGreatK21
set_option linter.unusedSimpArgs false
set_option linter.unusedVariables false
set_option linter.unusedSectionVars false
namespace Go.Ai.TabYtghlaibcihhbcaaGreat
open Go Go.Ai Go.Ai.Sx Go.Proofs
attribute [local irreducible] zm
set_option maxRecDepth 100000
set_option maxHeartbeats 4000000
instance i127 {p_0 way_1 t_2 state_3 stops_4}:FI ktab 127 (zei p_0 way_1 t_2 state_3 stops_4) [.val zbJ p_0,.val (zd z5) way_1,.val zbG t_2,vI state_3,.val (zd (zh .i64)) stops_4] (λout=>[wB out]):=⟨λout ho=>by
 delta zei at ho;refine fn λ_ _=>?_;obtain ⟨ca,ha,ho⟩:=bnd ho;refine run 8 ?_;refine gcx ca [1,4,5] [] (λt=>(.normal,λ_=>([(48,vB t)],[]))) ?_ λ_=>?_
 . exact we ha
 . refine gct ho (λhc ho=>?_) λhc ho=>?_
   . exact we ho
   . obtain ⟨ta,hd,ho⟩:=bnd ho;refine gl2 hd ho [1,4,5] [] [] (λs g=>([(11,vI s)],[])) (λb=>(.exit 0,λg=>([],[]))) (λb=>(.ret,λg=>([(10,vB b)],[]))) [] (λsa gb _ ho=>?_) (λba ho ga=>?_) λbb ho ga=>?_
     . exact we ho
     . exact we ho
     . exact rv ho⟩
instance i151 {t_0 x_1}:FI ktab 151 (zK t_0 x_1) [.val zbG t_0,.val zo x_1] (λout=>[wI out]):=fw
instance i153 {r_0 place_1}:FI ktab 153 (zaX r_0 place_1) [.val zag r_0,vI place_1] (λout=>[wI out]):=⟨λout ho=>by
 delta zaX at ho;refine fn λ_ _=>?_;obtain ⟨ta,ha,ho⟩:=bnd ho;refine gl2 ha ho [1,2] [] [] (λs g=>([(5,vI s.1),(6,vI s.2)],[])) (λb=>(.exit 0,λg=>([],[]))) (λb=>(.ret,λg=>([(4,vI b)],[]))) [] (λsa gb _ ho=>?_) (λba ho ga=>?_) λbb ho ga=>?_
 . refine gct ho (λhc ho=>?_) λhc ho=>?_
   . obtain ⟨xa,he,ho⟩:=bnd ho;refine gcl ho λya hf ho=>?_;refine wbr ho (λhd ho=>?_) λhd ho=>?_
     . refine gk ?_;exact we ho
     . refine run 9 ?_;exact we ho
   . exact lv [] [] ho
 . exact we ho
 . exact rv ho⟩
instance i167 {t_0 speed_1 demand_2 slope_3 state_4}:FI ktab 167 (zdF t_0 speed_1 demand_2 slope_3 state_4) [.val zbG t_0,vI speed_1,vI demand_2,vI slope_3,vI state_4] (λout=>[wI out.1,wI out.2.1,wI out.2.2.1,wI out.2.2.2]):=fw
instance i155 {t_0 x_1 demand_2 slope_3 state_4}:FI ktab 155 (zaE t_0 x_1 demand_2 slope_3 state_4) [.val zbG t_0,.val zo x_1,vI demand_2,vI slope_3,vI state_4] (λout=>[.val zo out.1,.val zw out.2.1,wB out.2.2]):=⟨λout ho=>by
 delta zaE at ho;refine fn λ_ _=>?_;refine gal λb1=>?_;refine gal λb2=>?_;obtain ⟨x5,hx5,ho⟩:=bnd ho;refine gcl ho λy6 hy6 ho=>?_;refine gal λb7=>?_;obtain ⟨ca,ha,ho⟩:=bnd ho;refine run 3 ?_;refine gcx ca [5,6,10,11,13,14,15,16,17,18,19] [0,1,2] (λt=>(.normal,λ_=>([(57,vB t)],[]))) ?_ λ_=>?_
 . have ho:=ha;refine wbr ho (λhc ho=>?_) λhc ho=>?_
   . exact lv [] [0,1,2] ho
   . refine wbr ho (λhd ho=>?_) λhd ho=>?_
     . exact lv [] [0,1,2] ho
     . exact lv [] [0,1,2] ho
 . refine gct ho (λhe ho=>?_) λhe ho=>?_
   . refine run 14 ?_;refine zao [6,1000010,1000011,1000019] (by kernel_rfl) ?_ (hdi:=rdists rfl (rowns rfl) (.c (.o (j:=2) rfl rfl) (.c (.o (j:=1) rfl rfl) (.c (.o (j:=0) rfl rfl) .n))) rfl);refine glb ((0,0,0,0,0,(w64 (x_1.1*x_1.1)),()):zX) 0 ?_;exact we ho
   . refine run 25 ?_;refine zao [6,1000010,1000011,1000019] (by kernel_rfl) ?_ (hdi:=rdists rfl (rowns rfl) (.c (.o (j:=2) rfl rfl) (.c (.o (j:=1) rfl rfl) (.c (.o (j:=0) rfl rfl) .n))) rfl);refine glb ((((w64 ((w64 (200*y6.1))*(w64 (x_1.1+(w64 (100*(w64 ((w64 ((w64 (y6.1-y6.2.1))-y6.2.2.1))-y6.2.2.2)))))))),(w64 ((w64 (200*y6.2.1))*(w64 (x_1.1+(w64 (100*(w64 ((w64 ((w64 (y6.1-y6.2.1))-y6.2.2.1))-y6.2.2.2)))))))),(w64 ((w64 (200*y6.2.2.1))*(w64 (x_1.1+(w64 (100*(w64 ((w64 ((w64 (y6.1-y6.2.1))-y6.2.2.1))-y6.2.2.2)))))))),(w64 ((w64 (200*y6.2.2.2))*(w64 (x_1.1+(w64 (100*(w64 ((w64 ((w64 (y6.1-y6.2.1))-y6.2.2.1))-y6.2.2.2)))))))),(w64 ((w64 (10000*(w64 ((w64 ((w64 (y6.1-y6.2.1))-y6.2.2.1))-y6.2.2.2))))*(w64 ((w64 ((w64 (y6.1-y6.2.1))-y6.2.2.1))-y6.2.2.2)))),0,()):zX):zX) 0 ?_;exact we ho⟩
instance i192 {p_0 l_1 front_2 length_3}:FI ktab 192 (zdG p_0 l_1 front_2 length_3) [.val zbJ p_0,.val (zd z5) l_1,vI front_2,vI length_3] (λout=>[.row zg1 out]):=⟨λout ho=>by
 delta zdG at ho;refine fn λ_ _=>?_;refine gnr zg1 ?_;refine gnr zg1 ?_;obtain ⟨ta,ha,ho⟩:=bnd ho;refine glp ha [1,2,3,4] [] [0] (λs g=>([(9,.raw (gh g 0)),(10,vI s.2.1),(11,vI s.2.2)],[((gh g 0),.row zg1 s.1)])) (λb=>(.exit 0,λg=>([(9,.raw (gh g 0))],[((gh g 0),.row zg1 b)]))) [.nilslice] (λsa ga _ ho=>?_) λgb=>?_
 . refine gct ho (λhc ho=>?_) λhc ho=>?_
   . obtain ⟨xa,hf,ho⟩:=bnd ho;refine gcl ho λya hg ho=>?_;refine gct ho (λhd ho=>?_) λhd ho=>?_
     . exact lv [(gh ga 0)] [0] ho
     . obtain ⟨xb,hh,ho⟩:=bnd ho;refine gct ho (λhe ho=>?_) λhe ho=>?_
       . obtain ⟨xd,hi,xe,hj,ho⟩:=zfI ho;refine gap λva=>?_;exact lv [va] [0] ho
       . obtain ⟨xf,hk,xg,hl,ho⟩:=zfI ho;refine gap λvb=>?_;exact lv [vb] [0] ho
   . exact lv [(gh ga 0)] [0] ho
 . exact we ho⟩
instance i179 {p_0 way_1 t_2 place_3}:FI ktab 179 (zdv p_0 way_1 t_2 place_3) [.val zbJ p_0,.val (zd z5) way_1,.val zbG t_2,vI place_3] (λout=>[wI out]):=⟨λout ho=>by
 delta zdv at ho;refine fn λ_ _=>?_;refine gcl ho λy1 hy1 ho=>?_;intro v2;show zm ..;obtain ⟨ta,ha,ho⟩:=bnd ho;refine glp ha [4,9] [] [0] (λs g=>([(10,vI s.1),(11,vI s.2)],[(v2,.row zg1 y1)])) (λb=>(.exit 0,λg=>([(10,vI b)],[]))) [] (λs8 g9 _ ho=>?_) λga=>?_
 . refine gct ho (λhc ho=>?_) λhc ho=>?_
   . refine run 3 ?_;refine zao [7] (by kernel_rfl) ?_;obtain ⟨xa,hd,ho⟩:=bnd ho;refine run 7 ?_;refine znZ 0 (λ_ h=>by cases h<;>rfl) iu' zpP (zfv hd).2.2.2 (.n rfl) rfl rfl (.t rfl) rfl ?_;obtain ⟨xb,he,ho⟩:=bnd ho;exact lv [] [0] ho
   . exact lv [] [] ho
 . exact we ho⟩
instance i166 {r_0 x_1}:FI ktab 166 (zdZ r_0 x_1) [.val zag r_0,.val zo x_1] (λout=>[wB out]):=⟨λout ho=>by
 delta zdZ at ho;refine fn λ_ _=>?_;refine run 3 ?_;refine xbo λb1=>?_;obtain ⟨ta,ha,ho⟩:=bnd ho;refine glp ha [2,3] [] [0] (λs g=>([(5,vI s.1)],[(.ptr b1 0,.box [vI s.2.1,vI s.2.2])])) (λb=>(.ret,λg=>([(4,vB b.1)],[]))) [] (λsa ga _ ho=>?_) λgb=>?_
 . refine run 4 ?_;refine zao [2,9,22] (by kernel_rfl) ?_;refine glb (sa.2.1,sa.2.2,()) 0 ?_;refine gcl ho λya hh ho=>?_;refine wbr ho (λhc ho=>?_) λhc ho=>?_
   . refine gk ?_;exact we ho
   . obtain ⟨xa,hi,ho⟩:=bnd ho;refine glb (sa.2.1,sa.2.2,()) 0 ?_;refine gcl ho λyb hj ho=>?_;refine gcl ho λyc hk ho=>?_;refine gct ho (λhd ho=>?_) λhd ho=>?_
     . exact we ho
     . refine gct ho (λhe ho=>?_) λhe ho=>?_
       . exact we ho
       . refine gct ho (λhf ho=>?_) λhf ho=>?_
         . exact we ho
         . refine run 6 ?_;refine zao [2,6] (by kernel_rfl) ?_;refine glb (sa.2.1,sa.2.2,()) 0 ?_;refine glb (sa.2.1,sa.2.2,()) 0 ?_;refine gcl ho λyd hl ho=>?_;refine gcl ho λye hm ho=>?_;refine gcl ho λyf hn ho=>?_;refine gct ho (λhg ho=>?_) λhg ho=>?_
           . exact we ho
           . exact lv [] [0] ho
 . exact rv ho⟩
instance i152 {r_0 x_1}:FI ktab 152 (zca r_0 x_1) [.val zag r_0,.val zo x_1] (λout=>[wI out.1,wB out.2]):=⟨λout ho=>by
 delta zca at ho;refine fn λ_ _=>?_;obtain ⟨ta,ha,ho⟩:=bnd ho;refine gl2 ha ho [2,3] [] [] (λs g=>([(6,vI s)],[])) (λb=>(.exit 0,λg=>([],[]))) (λb=>(.ret,λg=>([(4,vI b.1),(5,vB b.2)],[]))) [] (λsa gb _ ho=>?_) (λba ho ga=>?_) λbb ho ga=>?_
 . refine gct ho (λhc ho=>?_) λhc ho=>?_
   . refine gcl ho λyb he ho=>?_;refine gcl ho λyc hf ho=>?_;refine gcl ho λya hg ho=>?_;refine gal λbc=>?_;refine gal λbd=>?_;refine gfz 1 zo ya.1 1 [7] ?_;refine gfz 1 zw ya.2.1 0 [8] ?_;refine wbr ho (λhd ho=>?_) λhd ho=>?_
     . exact we ho
     . refine gk ?_;exact we ho
   . exact lv [] [] ho
 . exact we ho
 . exact rv ho⟩
instance i154 {t_0 x_1 demand_2 slope_3 state_4}:FI ktab 154 (zbq t_0 x_1 demand_2 slope_3 state_4) [.val zbG t_0,.val zo x_1,vI demand_2,vI slope_3,vI state_4] (λout=>[wI out.1,wI out.2]):=⟨λout ho=>by
 delta zbq at ho;refine fn λ_ _=>?_;obtain ⟨x3,hx3,ho⟩:=bnd ho;refine gcl ho λy4 hy4 ho=>?_;refine gcl ho λy5 hy5 ho=>?_;refine gal λb6=>?_;refine gal λb7=>?_;refine gfz 1 zo y5.1 1 [16] ?_;refine gfz 1 zw y5.2.1 0 [17] ?_;exact we ho⟩
instance i156 {a_0 b_1}:FI ktab 156 (zeB a_0 b_1) [.val zw a_0,.val zw b_1] (λout=>[.val zw out]):=fw
instance i128 {p_0 way_1 t_2 state_3 stops_4}:FI ktab 128 (zej p_0 way_1 t_2 state_3 stops_4) [.val zbJ p_0,.val (zd z5) way_1,.val zbG t_2,vI state_3,.val (zd (zh .i64)) stops_4] (λout=>[.row zgn out.1,wB out.2]):=⟨λout ho=>by
 delta zej at ho;refine fn λ_ _=>?_;refine gnr zgn ?_;obtain ⟨x3,hx3,ho⟩:=bnd ho;refine gal λb4=>?_;refine gnr zgn ?_;obtain ⟨ta,ha,ho⟩:=bnd ho;refine gl2 ha ho [1,3,4,5,7] [] [1,0] (λs g=>([(12,.raw (.ptr b4 0)),(13,.raw (gh g 0)),(14,vI s.2.1)],[(.ptr b4 0,.box [vI s.2.2.1,vI s.2.2.2]),((gh g 0),.row zgn s.1)])) (λb=>(.exit 0,λg=>([(12,.raw (.ptr b4 0)),(13,.raw (gh g 0))],[(.ptr b4 0,.box [vI b.2.1,vI b.2.2]),((gh g 0),.row zgn b.1)]))) (λb=>(.ret,λg=>([(10,.raw (gh g 0)),(11,vB b.2)],[((gh g 0),.row zgn b.1)]))) [.nilslice] (λsb ga _ ho=>?_) (λbc ho gc=>?_) λbd ho gc=>?_
 . refine gct ho (λhc ho=>?_) λhc ho=>?_
   . obtain ⟨xa,hm,ho⟩:=bnd ho;refine gal λbe=>?_;refine gfz 1 zag ((p_0,way_1,t_2,state_3,xa,()):z6) 0 [15] ?_;refine gal λbb=>?_;obtain ⟨tb,hd,ho⟩:=bnd ho;refine gl2 hd ho [1,3,4,5,7,12,13,14,15,16] [] [0,1,2] (λs g=>([(17,vI s.1)],[(.ptr bb 0,.box [vI s.2.1,vI 0,vI s.2.2.1,vI s.2.2.2.1,vI s.2.2.2.2.1,vI s.2.2.2.2.2.1,vI s.2.2.2.2.2.2.1,vI s.2.2.2.2.2.2.2.1,vI s.2.2.2.2.2.2.2.2.1,vI s.2.2.2.2.2.2.2.2.2.1]),(.ptr b4 0,.box [vI s.2.2.2.2.2.2.2.2.2.2.1,vI s.2.2.2.2.2.2.2.2.2.2.2]),((gh ga 0),.row zgn sb.1)])) (λb=>(.exit 2,λg=>([(53,.val zbG b.1),(54,.val zo b.2.1),(55,vI b.2.2.1),(56,.val (zd (zh .i64)) b.2.2.2.1),(57,vI b.2.2.2.2.1),(58,.val (zS (zh .i64)) b.2.2.2.2.2.1),(59,vI b.2.2.2.2.2.2.1),(60,vI b.2.2.2.2.2.2.2.1),(61,vB b.2.2.2.2.2.2.2.2.1)],[(.ptr bb 0,.box [vI b.2.2.2.2.2.2.2.2.2.1,vI 0,vI b.2.2.2.2.2.2.2.2.2.2.1,vI b.2.2.2.2.2.2.2.2.2.2.2.1,vI b.2.2.2.2.2.2.2.2.2.2.2.2.1,vI b.2.2.2.2.2.2.2.2.2.2.2.2.2.1,vI b.2.2.2.2.2.2.2.2.2.2.2.2.2.2.1,vI b.2.2.2.2.2.2.2.2.2.2.2.2.2.2.2.1,vI b.2.2.2.2.2.2.2.2.2.2.2.2.2.2.2.2.1,vI b.2.2.2.2.2.2.2.2.2.2.2.2.2.2.2.2.2.1]),(.ptr b4 0,.box [vI b.2.2.2.2.2.2.2.2.2.2.2.2.2.2.2.2.2.2.1,vI b.2.2.2.2.2.2.2.2.2.2.2.2.2.2.2.2.2.2.2]),((gh ga 0),.row zgn sb.1)]))) (λb=>(.ret,λg=>([(10,.raw (gh g 0)),(11,vB b.2.1)],[((gh g 0),.row zgn b.1)]))) [] (λsa gd _ ho=>?_) (λba ho gb=>?_) λbf ho gb=>?_
     . refine run 2 ?_;refine zao [1,5] (by kernel_rfl) ?_;refine wbr ho (λhe ho=>?_) λhe ho=>?_
       . refine gk ?_;refine wbr ho (λhf ho=>?_) λhf ho=>?_
         . refine gk ?_;refine gnr zgn ?_;exact lv [.nilslice] [0] ho
         . refine gct ho (λhg ho=>?_) λhg ho=>?_
           . refine gnr zgn ?_;exact lv [.nilslice] [0] ho
           . refine glb (sa.2.2.2.2.2.2.2.2.2.2.1,sa.2.2.2.2.2.2.2.2.2.2.2,()) 1 ?_;refine gcl ho λyf hn ho=>?_;refine gct ho (λhh ho=>?_) λhh ho=>?_
             . refine gnr zgn ?_;exact lv [.nilslice] [0] ho
             . refine run 2 ?_;refine zao [2] (by kernel_rfl) ?_;refine glb (sa.2.2.2.2.2.2.2.2.2.2.1,sa.2.2.2.2.2.2.2.2.2.2.2,()) 1 ?_;refine gcl ho λyg hp ho=>?_;refine gcl ho λyh hr ho=>?_;refine glb (sa.2.2.2.2.2.2.2.2.2.2.1,sa.2.2.2.2.2.2.2.2.2.2.2,()) 1 ?_;refine gcl ho λyi hs ho=>?_;refine glb (sa.2.2.2.2.2.2.2.2.2.2.1,sa.2.2.2.2.2.2.2.2.2.2.2,()) 1 ?_;refine gcl ho λyc ht ho=>?_;refine gal λbg=>?_;refine gal λbh=>?_;refine gfz 1 zo yc.1 1 [23] ?_;refine gfz 1 zw yc.2.1 0 [24] ?_;refine run 32 ?_;refine zjq (R:=zw) (a:=(sa.2.2.1,sa.2.2.2.1,sa.2.2.2.2.1,sa.2.2.2.2.2.1,sa.2.2.2.2.2.2.1,sa.2.2.2.2.2.2.2.1,())) (off:=2) 0 (λ_ h=>by cases h<;>rfl) iu' zbu (by exact Nat.le_of_ble_eq_true rfl) (.n rfl) rfl rfl (.t rfl) rfl ?_;refine gcl ho λya hu ho=>?_;refine run 1 ?_;refine zf8 (off:=2) (es':=[vI ya.1,vI ya.2.1,vI ya.2.2.1,vI ya.2.2.2.1,vI ya.2.2.2.2.1,vI ya.2.2.2.2.2.1]) 0 iu' rfl zbu (by exact Nat.le_of_ble_eq_true rfl) (.n rfl) rfl rfl (.t rfl) (.t rfl) (by rfl) ?_;exact lv [] [0,1,2] ho
       . refine glb (sa.2.2.2.2.2.2.2.2.2.2.1,sa.2.2.2.2.2.2.2.2.2.2.2,()) 1 ?_;refine gcl ho λyj hv ho=>?_;obtain ⟨xb,hw,ho⟩:=bnd ho;refine gct ho (λhi ho=>?_) λhi ho=>?_
         . refine wbr ho (λhj ho=>?_) λhj ho=>?_
           . refine gk ?_;refine gnr zgn ?_;exact lv [.nilslice] [0] ho
           . refine gct ho (λhk ho=>?_) λhk ho=>?_
             . refine gnr zgn ?_;exact lv [.nilslice] [0] ho
             . refine glb (sa.2.2.2.2.2.2.2.2.2.2.1,sa.2.2.2.2.2.2.2.2.2.2.2,()) 1 ?_;refine gcl ho λyk hy ho=>?_;refine gct ho (λhl ho=>?_) λhl ho=>?_
               . refine gnr zgn ?_;exact lv [.nilslice] [0] ho
               . refine run 2 ?_;refine zao [2] (by kernel_rfl) ?_;refine glb (sa.2.2.2.2.2.2.2.2.2.2.1,sa.2.2.2.2.2.2.2.2.2.2.2,()) 1 ?_;refine gcl ho λyl hz ho=>?_;refine gcl ho λym hA ho=>?_;refine glb (sa.2.2.2.2.2.2.2.2.2.2.1,sa.2.2.2.2.2.2.2.2.2.2.2,()) 1 ?_;refine gcl ho λyn hB ho=>?_;refine glb (sa.2.2.2.2.2.2.2.2.2.2.1,sa.2.2.2.2.2.2.2.2.2.2.2,()) 1 ?_;refine gcl ho λyd hC ho=>?_;refine gal λbi=>?_;refine gal λbj=>?_;refine gfz 1 zo yd.1 1 [23] ?_;refine gfz 1 zw yd.2.1 0 [24] ?_;refine run 32 ?_;refine zjq (R:=zw) (a:=(sa.2.2.1,sa.2.2.2.1,sa.2.2.2.2.1,sa.2.2.2.2.2.1,sa.2.2.2.2.2.2.1,sa.2.2.2.2.2.2.2.1,())) (off:=2) 0 (λ_ h=>by cases h<;>rfl) iu' zbu (by exact Nat.le_of_ble_eq_true rfl) (.n rfl) rfl rfl (.t rfl) rfl ?_;refine gcl ho λyb hD ho=>?_;refine run 1 ?_;refine zf8 (off:=2) (es':=[vI yb.1,vI yb.2.1,vI yb.2.2.1,vI yb.2.2.2.1,vI yb.2.2.2.2.1,vI yb.2.2.2.2.2.1]) 0 iu' rfl zbu (by exact Nat.le_of_ble_eq_true rfl) (.n rfl) rfl rfl (.t rfl) (.t rfl) (by rfl) ?_;exact lv [] [0,1,2] ho
         . exact lv [] [0,1,2] ho
     . refine glb (ba.2.2.2.2.2.2.2.2.2.2.2.2.2.2.2.2.2.2.1,ba.2.2.2.2.2.2.2.2.2.2.2.2.2.2.2.2.2.2.2,()) 1 ?_;refine gcl ho λye hE ho=>?_;refine glb (ba.2.2.2.2.2.2.2.2.2.1,ye,(ba.2.2.2.2.2.2.2.2.2.2.1,ba.2.2.2.2.2.2.2.2.2.2.2.1,ba.2.2.2.2.2.2.2.2.2.2.2.2.1,ba.2.2.2.2.2.2.2.2.2.2.2.2.2.1,ba.2.2.2.2.2.2.2.2.2.2.2.2.2.2.1,ba.2.2.2.2.2.2.2.2.2.2.2.2.2.2.2.1,()),ba.2.2.2.2.2.2.2.2.2.2.2.2.2.2.2.2.1,ba.2.2.2.2.2.2.2.2.2.2.2.2.2.2.2.2.2.1,()) 0 ?_;obtain ⟨xd,hF,ho⟩:=bnd ho;refine gap λva=>?_;exact lv [va] [2,0] ho
     . cases ho; exact id (lf [(gh gb 0)] [0])
   . exact lv [(gh ga 0)] [0,1] ho
 . refine run 1 ?_;refine zao [2] (by kernel_rfl) ?_;exact we ho
 . exact rv ho⟩
instance i98 {p_0 way_1 t_2 state_3 stops_4}:FI ktab 98 (zfD p_0 way_1 t_2 state_3 stops_4) [.val zbJ p_0,.val (zd z5) way_1,.val zbG t_2,vI state_3,.val (zd (zh .i64)) stops_4] (λout=>[.row (zh .i64) out.1,wB out.2]):=⟨λout ho=>by
 delta zfD at ho;refine fn λ_ _=>?_;refine gnr (zh .i64) ?_;refine gcl ho λy1 hy1 ho=>?_;refine gct ho (λhq2 ho=>?_) λhq2 ho=>?_
 . refine gnr (zh .i64) ?_;exact we ho
 . refine gcl ho λy3 hy3 ho=>?_;intro v4;show zm ..;refine gnr (zh .i64) ?_;obtain ⟨ta,ha,ho⟩:=bnd ho;refine glp ha [12,13] [] [1,0] (λs g=>([(14,.raw (gh g 0)),(15,vI s.2)],[(v4,.row zgn y3.1),((gh g 0),.row (zh .i64) s.1)])) (λb=>(.exit 0,λg=>([(14,.raw (gh g 0))],[((gh g 0),.row (zh .i64) b)]))) [.nilslice] (λs9 ga _ ho=>?_) λgb=>?_
   . refine gct ho (λhc ho=>?_) λhc ho=>?_
     . obtain ⟨xa,hd,ho⟩:=bnd ho;refine run 9 ?_;refine znZ 0 (λ_ h=>by cases h<;>rfl) iu' zta (zfv hd).2.2.2 (.n rfl) rfl rfl (.t rfl) rfl ?_;obtain ⟨xb,he,ho⟩:=bnd ho;refine gap λva=>?_;exact lv [va] [1,0] ho
     . exact lv [(gh ga 0)] [1] ho
   . exact we ho⟩
instance i56 {p_0 l_1 home_2}:FI ktab 56 (zcJ p_0 l_1 home_2) [.val zbJ p_0,.val ze3 l_1,vB home_2] (λout=>[.row (zh .i64) out.1,wB out.2]):=⟨λout ho=>by
 delta zcJ at ho;refine fn λ_ _=>?_;refine gnr (zh .i64) ?_;refine gcl ho λy1 hy1 ho=>?_;refine gal λb2=>?_;refine gfz 1 zcU y1 0 [8] ?_;obtain ⟨ca,ha,ho⟩:=bnd ho;refine run 3 ?_;refine gcx ca [3,4,8] [0] (λt=>(.normal,λ_=>([(55,vB t)],[]))) ?_ λ_=>?_
 . have ho:=ha;refine gcl ho λyb hs ho=>?_;refine wbr ho (λhc ho=>?_) λhc ho=>?_
   . exact lv [] [0] ho
   . refine gcl ho λyc ht ho=>?_;refine wbr ho (λhd ho=>?_) λhd ho=>?_
     . exact lv [] [0] ho
     . refine wbr ho (λhe ho=>?_) λhe ho=>?_
       . exact lv [] [0] ho
       . obtain ⟨xa,hu,ho⟩:=bnd ho;refine wbr ho (λhf ho=>?_) λhf ho=>?_
         . exact lv [] [0] ho
         . obtain ⟨xb,hv,ho⟩:=bnd ho;exact lv [] [0] ho
 . refine gct ho (λhg ho=>?_) λhg ho=>?_
   . refine gnr (zh .i64) ?_;exact we ho
   . obtain ⟨ta,hh,ho⟩:=bnd ho;refine gl2 hh ho [3,4,8] [] [] (λs g=>([(9,vI s)],[])) (λb=>(.exit 0,λg=>([],[]))) (λb=>(.ret,λg=>([(6,.raw (gh g 0)),(7,vB b.2)],[((gh g 0),.row (zh .i64) b.1)]))) [] (λsa gc _ ho=>?_) (λba ho ga=>?_) λbb ho ga=>?_
     . refine gct ho (λhi ho=>?_) λhi ho=>?_
       . obtain ⟨xd,hw,ho⟩:=bnd ho;refine gcl ho λyd hy ho=>?_;refine gcl ho λye hz ho=>?_;refine wbr ho (λhj ho=>?_) λhj ho=>?_
         . refine gk ?_;refine gnr (zh .i64) ?_;exact lv [.nilslice] [0] ho
         . obtain ⟨xe,hA,ho⟩:=bnd ho;refine gcl ho λyf hB ho=>?_;refine wbr ho (λhk ho=>?_) λhk ho=>?_
           . refine gk ?_;refine gnr (zh .i64) ?_;exact lv [.nilslice] [0] ho
           . refine wbr ho (λhl ho=>?_) λhl ho=>?_
             . refine run 9 ?_;obtain ⟨xf,hC,xg,hD,ho⟩:=zfI ho;refine gct ho (λhm ho=>?_) λhm ho=>?_
               . refine gnr (zh .i64) ?_;exact lv [.nilslice] [0] ho
               . exact we ho
             . refine gk ?_;exact we ho
       . exact lv [] [] ho
     . refine gcl ho λya hE ho=>?_;intro va;show zm ..;refine gct ho (λhn ho=>?_) λhn ho=>?_
       . refine gnr (zh .i64) ?_;exact we ho
       . refine gnr (zh .i64) ?_;obtain ⟨tb,hp,ho⟩:=bnd ho;refine glp hp [10] [] [1,0] (λs g=>([(12,.raw (gh g 0)),(13,vI s.2)],[(va,.row (zh .i64) ya.1),((gh g 0),.row (zh .i64) s.1)])) (λb=>(.exit 2,λg=>([(12,.raw (gh g 0))],[((gh g 0),.row (zh .i64) b)]))) [.nilslice] (λsb gb _ ho=>?_) λgd=>?_
         . refine gct ho (λhr ho=>?_) λhr ho=>?_
           . obtain ⟨xh,hF,xi,hG,xj,hH,ho⟩:=zpQ ho;refine gap λvb=>?_;exact lv [vb] [1,0] ho
           . exact lv [(gh gb 0)] [1] ho
         . exact we ho
     . exact rv ho⟩
instance i58 {p_0 l_1 home_2}:FI ktab 58 (zeX p_0 l_1 home_2) [.val zbJ p_0,.val ze3 l_1,vB home_2] (λout=>[.row (zh .i64) out]):=⟨λout ho=>by
 delta zeX at ho;refine fn λ_ _=>?_;refine run 4 ?_;refine zd7 (.n rfl) rfl rfl (.nil (R:=(zh .i64))) ?_;refine gcl ho λy1 hy1 ho=>?_;intro v2;exact we ho⟩
instance i28 {p_0 l_1 home_2}:FI ktab 28 (zaQ p_0 l_1 home_2) [.val zbJ p_0,.val ze3 l_1,vB home_2] (λout=>[.row (zh .i64) out]):=⟨λout ho=>by
 delta zaQ at ho;refine fn λ_ _=>?_;refine gnr (zh .i64) ?_;refine gcl ho λy1 hy1 ho=>?_;refine gal λb2=>?_;refine gfz 1 zcU y1 0 [7] ?_;refine gcl ho λy3 hy3 ho=>?_;intro v4;show zm ..;refine run 4 ?_;refine zuV (R:=(zh .i64)) is' iy' (.n rfl) rfl rfl (.c (.i (by decide) (by decide)) .n) rfl (by decide) ?_;intro v5;obtain ⟨ta,ha,ho⟩:=bnd ho;refine glp ha [7,8] [] [1,0] (λs g=>([(9,.raw (gh g 0)),(10,vI s.2)],[(v4,.row (zh .i64) y3),((gh g 0),.row (zh .i64) s.1)])) (λb=>(.exit 0,λg=>([(9,.raw (gh g 0))],[((gh g 0),.row (zh .i64) b)]))) [v5] (λsa ga _ ho=>?_) λgb=>?_
 . refine gct ho (λhc ho=>?_) λhc ho=>?_
   . refine run 3 ?_;refine zao [4,8] (by kernel_rfl) ?_;obtain ⟨xa,hd,xb,he,xd,hf,ho⟩:=zpQ ho;obtain ⟨xe,hg,ho⟩:=bnd ho;refine gap λva=>?_;exact lv [va] [1,0] ho
   . exact lv [(gh ga 0)] [1] ho
 . exact we ho⟩
instance i26 {p_0 l_1}:FI ktab 26 (zd0 p_0 l_1) [.val zbJ p_0,.val ze3 l_1] (λout=>[wB out]):=⟨λout ho=>by
 delta zd0 at ho;refine fn λ_ _=>?_;refine gcl ho λy1 hy1 ho=>?_;refine gct ho (λhq2 ho=>?_) λhq2 ho=>?_
 . exact we ho
 . obtain ⟨ta,ha,ho⟩:=bnd ho;refine gl2 ha ho [2,3] [] [] (λs g=>([(5,vI s)],[])) (λb=>(.exit 0,λg=>([],[]))) (λb=>(.ret,λg=>([(4,vB b)],[]))) [] (λsa gb _ ho=>?_) (λba ho ga=>?_) λbb ho ga=>?_
   . refine gct ho (λhc ho=>?_) λhc ho=>?_
     . refine gcl ho λya he ho=>?_;intro va;show zm ..;refine gct ho (λhd ho=>?_) λhd ho=>?_
       . exact we ho
       . refine gcl ho λyb hf ho=>?_;intro vb;exact we ho
     . exact lv [] [] ho
   . exact we ho
   . exact rv ho⟩
instance i8 {p_0 s_1}:FI ktab 8 (zdh p_0 s_1) [.val zbJ p_0,.val zc0 s_1] (λout=>[wB out]):=⟨λout ho=>by
 delta zdh at ho;refine fn λ_ _=>?_;obtain ⟨c6,hc6,ho⟩:=bnd ho;refine run 8 ?_;refine gcx c6 [2,3] [] (λt=>(.normal,λ_=>([(33,vB t)],[]))) ?_ λ_=>?_
 . exact we hc6
 . refine gct ho (λha ho=>?_) λha ho=>?_
   . exact we ho
   . obtain ⟨ta,hc,ho⟩:=bnd ho;refine gl2 hc ho [2,3] [] [] (λs g=>([(5,vI s)],[])) (λb=>(.exit 0,λg=>([],[]))) (λb=>(.ret,λg=>([(4,vB b)],[]))) [] (λsa gb _ ho=>?_) (λba ho ga=>?_) λbb ho ga=>?_
     . refine gct ho (λhd ho=>?_) λhd ho=>?_
       . obtain ⟨xa,hg,ho⟩:=bnd ho;refine gcl ho λya hh ho=>?_;refine wbr ho (λhe ho=>?_) λhe ho=>?_
         . refine gk ?_;exact we ho
         . obtain ⟨xb,hi,ho⟩:=bnd ho;refine gcl ho λyb hj ho=>?_;refine wbr ho (λhf ho=>?_) λhf ho=>?_
           . refine gk ?_;exact we ho
           . refine run 3 ?_;exact we ho
       . exact lv [] [] ho
     . exact we ho
     . exact rv ho⟩
end Go.Ai.TabYtghlaibcihhbcaaGreat