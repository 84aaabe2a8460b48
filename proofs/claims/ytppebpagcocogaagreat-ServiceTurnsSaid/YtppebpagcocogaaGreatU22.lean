/- Written by program: walks through functions. -/
import Derived.Test.YtppebpagcocogaaGreatU11
import Derived.Test.YtppebpagcocogaaGreatU21
import Derived.Test.YtppebpagcocogaaGreatU19
import Derived.Test.YtppebpagcocogaaGreatU17
set_option linter.unusedSimpArgs false
set_option linter.unusedVariables false
set_option linter.unusedSectionVars false
namespace Go.Ai.TabYtppebpagcocogaaGreat
open Go Go.Ai Go.Ai.Sx Go.Proofs
attribute [local irreducible] zo
set_option maxRecDepth 100000
set_option maxHeartbeats 4000000
instance i165 {t_0 x_1 demand_2 slope_3 state_4}:FI ktab 165 (zbA t_0 x_1 demand_2 slope_3 state_4) [.val zbE t_0,.val zr x_1,vI demand_2,vI slope_3,vI state_4] (λout=>[wI out.1,wI out.2]):=⟨λout ho=>by
 delta zbA at ho;refine fn λ_ _=>?_;obtain ⟨x3,hx3,ho⟩:=bnd ho;refine gcl ho λy4 hy4 ho=>?_;refine gcl ho λy5 hy5 ho=>?_;refine gal λb6=>?_;refine gal λb7=>?_;refine gfz 1 zr y5.1 1 [16] ?_;refine gfz 1 zy y5.2.1 0 [17] ?_;exact we ho⟩
instance i167 {a_0 b_1}:FI ktab 167 (zeh a_0 b_1) [.val zy a_0,.val zy b_1] (λout=>[.val zy out]):=fw
instance i135 {p_0 way_1 t_2 state_3 stops_4}:FI ktab 135 (zdY p_0 way_1 t_2 state_3 stops_4) [.val zbl p_0,.val (zf zR) way_1,.val zbE t_2,vI state_3,.val (zf (zj .i64)) stops_4] (λout=>[.row zfX out.1,wB out.2]):=⟨λout ho=>by
 delta zdY at ho;refine fn λ_ _=>?_;refine gnr zfX ?_;obtain ⟨x3,hx3,ho⟩:=bnd ho;refine gal λb4=>?_;refine gnr zfX ?_;obtain ⟨ta,ha,ho⟩:=bnd ho;refine gl2 ha ho [1,3,4,5,7] [] [1,0] (λs g=>([(12,.raw (.ptr b4 0)),(13,.raw (gh g 0)),(14,vI s.2.1)],[(.ptr b4 0,.box [vI s.2.2.1,vI s.2.2.2]),((gh g 0),.row zfX s.1)])) (λb=>(.exit 0,λg=>([(12,.raw (.ptr b4 0)),(13,.raw (gh g 0))],[(.ptr b4 0,.box [vI b.2.1,vI b.2.2]),((gh g 0),.row zfX b.1)]))) (λb=>(.ret,λg=>([(10,.raw (gh g 0)),(11,vB b.2)],[((gh g 0),.row zfX b.1)]))) [.nilslice] (λsb ga _ ho=>?_) (λbc ho gc=>?_) λbd ho gc=>?_
 . refine gct ho (λhc ho=>?_) λhc ho=>?_
   . obtain ⟨xa,hm,ho⟩:=bnd ho;refine gal λbe=>?_;refine gfz 1 zaf ((p_0,way_1,t_2,state_3,xa,()):z8) 0 [15] ?_;refine gal λbb=>?_;obtain ⟨tb,hd,ho⟩:=bnd ho;refine gl2 hd ho [1,3,4,5,7,12,13,14,15,16] [] [0,1,2] (λs g=>([(17,vI s.1)],[(.ptr bb 0,.box [vI s.2.1,vI 0,vI s.2.2.1,vI s.2.2.2.1,vI s.2.2.2.2.1,vI s.2.2.2.2.2.1,vI s.2.2.2.2.2.2.1,vI s.2.2.2.2.2.2.2.1,vI s.2.2.2.2.2.2.2.2.1,vI s.2.2.2.2.2.2.2.2.2.1]),(.ptr b4 0,.box [vI s.2.2.2.2.2.2.2.2.2.2.1,vI s.2.2.2.2.2.2.2.2.2.2.2]),((gh ga 0),.row zfX sb.1)])) (λb=>(.exit 2,λg=>([(53,.val zbE b.1),(54,.val zr b.2.1),(55,vI b.2.2.1),(56,.val (zf (zj .i64)) b.2.2.2.1),(57,vI b.2.2.2.2.1),(58,.val (zaY (zj .i64)) b.2.2.2.2.2.1),(59,vI b.2.2.2.2.2.2.1),(60,vI b.2.2.2.2.2.2.2.1),(61,vB b.2.2.2.2.2.2.2.2.1)],[(.ptr bb 0,.box [vI b.2.2.2.2.2.2.2.2.2.1,vI 0,vI b.2.2.2.2.2.2.2.2.2.2.1,vI b.2.2.2.2.2.2.2.2.2.2.2.1,vI b.2.2.2.2.2.2.2.2.2.2.2.2.1,vI b.2.2.2.2.2.2.2.2.2.2.2.2.2.1,vI b.2.2.2.2.2.2.2.2.2.2.2.2.2.2.1,vI b.2.2.2.2.2.2.2.2.2.2.2.2.2.2.2.1,vI b.2.2.2.2.2.2.2.2.2.2.2.2.2.2.2.2.1,vI b.2.2.2.2.2.2.2.2.2.2.2.2.2.2.2.2.2.1]),(.ptr b4 0,.box [vI b.2.2.2.2.2.2.2.2.2.2.2.2.2.2.2.2.2.2.1,vI b.2.2.2.2.2.2.2.2.2.2.2.2.2.2.2.2.2.2.2]),((gh ga 0),.row zfX sb.1)]))) (λb=>(.ret,λg=>([(10,.raw (gh g 0)),(11,vB b.2.1)],[((gh g 0),.row zfX b.1)]))) [] (λsa gd _ ho=>?_) (λba ho gb=>?_) λbf ho gb=>?_
     . refine run 2 ?_;refine zaA [1,5] (by kernel_rfl) ?_;refine wbr ho (λhe ho=>?_) λhe ho=>?_
       . refine gk ?_;refine wbr ho (λhf ho=>?_) λhf ho=>?_
         . refine gk ?_;refine gnr zfX ?_;exact lv [.nilslice] [0] ho
         . refine gct ho (λhg ho=>?_) λhg ho=>?_
           . refine gnr zfX ?_;exact lv [.nilslice] [0] ho
           . refine glb (sa.2.2.2.2.2.2.2.2.2.2.1,sa.2.2.2.2.2.2.2.2.2.2.2,()) 1 ?_;refine gcl ho λyf hn ho=>?_;refine gct ho (λhh ho=>?_) λhh ho=>?_
             . refine gnr zfX ?_;exact lv [.nilslice] [0] ho
             . refine run 2 ?_;refine zaA [2] (by kernel_rfl) ?_;refine glb (sa.2.2.2.2.2.2.2.2.2.2.1,sa.2.2.2.2.2.2.2.2.2.2.2,()) 1 ?_;refine gcl ho λyg hp ho=>?_;refine gcl ho λyh hr ho=>?_;refine glb (sa.2.2.2.2.2.2.2.2.2.2.1,sa.2.2.2.2.2.2.2.2.2.2.2,()) 1 ?_;refine gcl ho λyi hs ho=>?_;refine glb (sa.2.2.2.2.2.2.2.2.2.2.1,sa.2.2.2.2.2.2.2.2.2.2.2,()) 1 ?_;refine gcl ho λyc ht ho=>?_;refine gal λbg=>?_;refine gal λbh=>?_;refine gfz 1 zr yc.1 1 [23] ?_;refine gfz 1 zy yc.2.1 0 [24] ?_;refine run 32 ?_;refine ziX (R:=zy) (a:=(sa.2.2.1,sa.2.2.2.1,sa.2.2.2.2.1,sa.2.2.2.2.2.1,sa.2.2.2.2.2.2.1,sa.2.2.2.2.2.2.2.1,())) (off:=2) 0 (λ_ h=>by cases h<;>rfl) iu' zbF (by exact Nat.le_of_ble_eq_true rfl) (.n rfl) rfl rfl (.t rfl) rfl ?_;refine gcl ho λya hu ho=>?_;refine run 1 ?_;refine zfJ (off:=2) (es':=[vI ya.1,vI ya.2.1,vI ya.2.2.1,vI ya.2.2.2.1,vI ya.2.2.2.2.1,vI ya.2.2.2.2.2.1]) 0 iu' rfl zbF (by exact Nat.le_of_ble_eq_true rfl) (.n rfl) rfl rfl (.t rfl) (.t rfl) (by rfl) ?_;exact lv [] [0,1,2] ho
       . refine glb (sa.2.2.2.2.2.2.2.2.2.2.1,sa.2.2.2.2.2.2.2.2.2.2.2,()) 1 ?_;refine gcl ho λyj hv ho=>?_;obtain ⟨xb,hw,ho⟩:=bnd ho;refine gct ho (λhi ho=>?_) λhi ho=>?_
         . refine wbr ho (λhj ho=>?_) λhj ho=>?_
           . refine gk ?_;refine gnr zfX ?_;exact lv [.nilslice] [0] ho
           . refine gct ho (λhk ho=>?_) λhk ho=>?_
             . refine gnr zfX ?_;exact lv [.nilslice] [0] ho
             . refine glb (sa.2.2.2.2.2.2.2.2.2.2.1,sa.2.2.2.2.2.2.2.2.2.2.2,()) 1 ?_;refine gcl ho λyk hy ho=>?_;refine gct ho (λhl ho=>?_) λhl ho=>?_
               . refine gnr zfX ?_;exact lv [.nilslice] [0] ho
               . refine run 2 ?_;refine zaA [2] (by kernel_rfl) ?_;refine glb (sa.2.2.2.2.2.2.2.2.2.2.1,sa.2.2.2.2.2.2.2.2.2.2.2,()) 1 ?_;refine gcl ho λyl hz ho=>?_;refine gcl ho λym hA ho=>?_;refine glb (sa.2.2.2.2.2.2.2.2.2.2.1,sa.2.2.2.2.2.2.2.2.2.2.2,()) 1 ?_;refine gcl ho λyn hB ho=>?_;refine glb (sa.2.2.2.2.2.2.2.2.2.2.1,sa.2.2.2.2.2.2.2.2.2.2.2,()) 1 ?_;refine gcl ho λyd hC ho=>?_;refine gal λbi=>?_;refine gal λbj=>?_;refine gfz 1 zr yd.1 1 [23] ?_;refine gfz 1 zy yd.2.1 0 [24] ?_;refine run 32 ?_;refine ziX (R:=zy) (a:=(sa.2.2.1,sa.2.2.2.1,sa.2.2.2.2.1,sa.2.2.2.2.2.1,sa.2.2.2.2.2.2.1,sa.2.2.2.2.2.2.2.1,())) (off:=2) 0 (λ_ h=>by cases h<;>rfl) iu' zbF (by exact Nat.le_of_ble_eq_true rfl) (.n rfl) rfl rfl (.t rfl) rfl ?_;refine gcl ho λyb hD ho=>?_;refine run 1 ?_;refine zfJ (off:=2) (es':=[vI yb.1,vI yb.2.1,vI yb.2.2.1,vI yb.2.2.2.1,vI yb.2.2.2.2.1,vI yb.2.2.2.2.2.1]) 0 iu' rfl zbF (by exact Nat.le_of_ble_eq_true rfl) (.n rfl) rfl rfl (.t rfl) (.t rfl) (by rfl) ?_;exact lv [] [0,1,2] ho
         . exact lv [] [0,1,2] ho
     . refine glb (ba.2.2.2.2.2.2.2.2.2.2.2.2.2.2.2.2.2.2.1,ba.2.2.2.2.2.2.2.2.2.2.2.2.2.2.2.2.2.2.2,()) 1 ?_;refine gcl ho λye hE ho=>?_;refine glb (ba.2.2.2.2.2.2.2.2.2.1,ye,(ba.2.2.2.2.2.2.2.2.2.2.1,ba.2.2.2.2.2.2.2.2.2.2.2.1,ba.2.2.2.2.2.2.2.2.2.2.2.2.1,ba.2.2.2.2.2.2.2.2.2.2.2.2.2.1,ba.2.2.2.2.2.2.2.2.2.2.2.2.2.2.1,ba.2.2.2.2.2.2.2.2.2.2.2.2.2.2.2.1,()),ba.2.2.2.2.2.2.2.2.2.2.2.2.2.2.2.2.1,ba.2.2.2.2.2.2.2.2.2.2.2.2.2.2.2.2.2.1,()) 0 ?_;obtain ⟨xd,hF,ho⟩:=bnd ho;refine gap λva=>?_;exact lv [va] [2,0] ho
     . cases ho; exact id (lf [(gh gb 0)] [0])
   . exact lv [(gh ga 0)] [0,1] ho
 . refine run 1 ?_;refine zaA [2] (by kernel_rfl) ?_;exact we ho
 . exact rv ho⟩
instance i104 {p_0 way_1 t_2 state_3 stops_4}:FI ktab 104 (zfh p_0 way_1 t_2 state_3 stops_4) [.val zbl p_0,.val (zf zR) way_1,.val zbE t_2,vI state_3,.val (zf (zj .i64)) stops_4] (λout=>[.row (zj .i64) out.1,wB out.2]):=⟨λout ho=>by
 delta zfh at ho;refine fn λ_ _=>?_;refine gnr (zj .i64) ?_;refine gcl ho λy1 hy1 ho=>?_;refine gct ho (λhq2 ho=>?_) λhq2 ho=>?_
 . refine gnr (zj .i64) ?_;exact we ho
 . refine gcl ho λy3 hy3 ho=>?_;intro v4;show zo ..;refine gnr (zj .i64) ?_;obtain ⟨ta,ha,ho⟩:=bnd ho;refine glp ha [12,13] [] [1,0] (λs g=>([(14,.raw (gh g 0)),(15,vI s.2)],[(v4,.row zfX y3.1),((gh g 0),.row (zj .i64) s.1)])) (λb=>(.exit 0,λg=>([(14,.raw (gh g 0))],[((gh g 0),.row (zj .i64) b)]))) [.nilslice] (λs9 ga _ ho=>?_) λgb=>?_
   . refine gct ho (λhc ho=>?_) λhc ho=>?_
     . obtain ⟨xa,hd,ho⟩:=bnd ho;refine run 9 ?_;refine znD 0 (λ_ h=>by cases h<;>rfl) iu' ztj (zfb hd).2.2.2 (.n rfl) rfl rfl (.t rfl) rfl ?_;obtain ⟨xb,he,ho⟩:=bnd ho;refine gap λva=>?_;exact lv [va] [1,0] ho
     . exact lv [(gh ga 0)] [1] ho
   . exact we ho⟩
instance i66 {p_0 l_1 home_2}:FI ktab 66 (zcB p_0 l_1 home_2) [.val zbl p_0,.val zdk l_1,vB home_2] (λout=>[.row (zj .i64) out.1,wB out.2]):=⟨λout ho=>by
 delta zcB at ho;refine fn λ_ _=>?_;refine gnr (zj .i64) ?_;refine gcl ho λy1 hy1 ho=>?_;refine gal λb2=>?_;refine gfz 1 zco y1 0 [8] ?_;obtain ⟨ca,ha,ho⟩:=bnd ho;refine run 3 ?_;refine gcx ca [3,4,8] [0] (λt=>(.normal,λ_=>([(55,vB t)],[]))) ?_ λ_=>?_
 . have ho:=ha;refine gcl ho λyb hs ho=>?_;refine wbr ho (λhc ho=>?_) λhc ho=>?_
   . exact lv [] [0] ho
   . refine gcl ho λyc ht ho=>?_;refine wbr ho (λhd ho=>?_) λhd ho=>?_
     . exact lv [] [0] ho
     . refine wbr ho (λhe ho=>?_) λhe ho=>?_
       . exact lv [] [0] ho
       . obtain ⟨xa,hu,ho⟩:=bnd ho;refine wbr ho (λhf ho=>?_) λhf ho=>?_
         . exact lv [] [0] ho
         . obtain ⟨xb,hv,ho⟩:=bnd ho;exact lv [] [0] ho
 . refine gct ho (λhg ho=>?_) λhg ho=>?_
   . refine gnr (zj .i64) ?_;exact we ho
   . obtain ⟨ta,hh,ho⟩:=bnd ho;refine gl2 hh ho [3,4,8] [] [] (λs g=>([(9,vI s)],[])) (λb=>(.exit 0,λg=>([],[]))) (λb=>(.ret,λg=>([(6,.raw (gh g 0)),(7,vB b.2)],[((gh g 0),.row (zj .i64) b.1)]))) [] (λsa gc _ ho=>?_) (λba ho ga=>?_) λbb ho ga=>?_
     . refine gct ho (λhi ho=>?_) λhi ho=>?_
       . obtain ⟨xd,hw,ho⟩:=bnd ho;refine gcl ho λyd hy ho=>?_;refine gcl ho λye hz ho=>?_;refine wbr ho (λhj ho=>?_) λhj ho=>?_
         . refine gk ?_;refine gnr (zj .i64) ?_;exact lv [.nilslice] [0] ho
         . obtain ⟨xe,hA,ho⟩:=bnd ho;refine gcl ho λyf hB ho=>?_;refine wbr ho (λhk ho=>?_) λhk ho=>?_
           . refine gk ?_;refine gnr (zj .i64) ?_;exact lv [.nilslice] [0] ho
           . refine wbr ho (λhl ho=>?_) λhl ho=>?_
             . refine run 9 ?_;obtain ⟨xf,hC,xg,hD,ho⟩:=zfP ho;refine gct ho (λhm ho=>?_) λhm ho=>?_
               . refine gnr (zj .i64) ?_;exact lv [.nilslice] [0] ho
               . exact we ho
             . refine gk ?_;exact we ho
       . exact lv [] [] ho
     . refine gcl ho λya hE ho=>?_;intro va;show zo ..;refine gct ho (λhn ho=>?_) λhn ho=>?_
       . refine gnr (zj .i64) ?_;exact we ho
       . refine gnr (zj .i64) ?_;obtain ⟨tb,hp,ho⟩:=bnd ho;refine glp hp [10] [] [1,0] (λs g=>([(12,.raw (gh g 0)),(13,vI s.2)],[(va,.row (zj .i64) ya.1),((gh g 0),.row (zj .i64) s.1)])) (λb=>(.exit 2,λg=>([(12,.raw (gh g 0))],[((gh g 0),.row (zj .i64) b)]))) [.nilslice] (λsb gb _ ho=>?_) λgd=>?_
         . refine gct ho (λhr ho=>?_) λhr ho=>?_
           . obtain ⟨xh,hF,xi,hG,xj,hH,ho⟩:=zpT ho;refine gap λvb=>?_;exact lv [vb] [1,0] ho
           . exact lv [(gh gb 0)] [1] ho
         . exact we ho
     . exact rv ho⟩
instance i37 {p_0 l_1 home_2}:FI ktab 37 (zeD p_0 l_1 home_2) [.val zbl p_0,.val zdk l_1,vB home_2] (λout=>[.row (zj .i64) out]):=⟨λout ho=>by
 delta zeD at ho;refine fn λ_ _=>?_;refine run 4 ?_;refine zdO (.n rfl) rfl rfl (.nil (R:=(zj .i64))) ?_;refine gcl ho λy1 hy1 ho=>?_;intro v2;exact we ho⟩
instance i24 {p_0 l_1 home_2}:FI ktab 24 (zba p_0 l_1 home_2) [.val zbl p_0,.val zdk l_1,vB home_2] (λout=>[.row (zj .i64) out]):=⟨λout ho=>by
 delta zba at ho;refine fn λ_ _=>?_;refine gnr (zj .i64) ?_;refine gcl ho λy1 hy1 ho=>?_;refine gal λb2=>?_;refine gfz 1 zco y1 0 [7] ?_;refine gcl ho λy3 hy3 ho=>?_;intro v4;show zo ..;refine run 4 ?_;refine zxs (R:=(zj .i64)) is' iy' (.n rfl) rfl rfl (.c (.i (by decide) (by decide)) .n) rfl (by decide) ?_;intro v5;obtain ⟨ta,ha,ho⟩:=bnd ho;refine glp ha [7,8] [] [1,0] (λs g=>([(9,.raw (gh g 0)),(10,vI s.2)],[(v4,.row (zj .i64) y3),((gh g 0),.row (zj .i64) s.1)])) (λb=>(.exit 0,λg=>([(9,.raw (gh g 0))],[((gh g 0),.row (zj .i64) b)]))) [v5] (λsa ga _ ho=>?_) λgb=>?_
 . refine gct ho (λhc ho=>?_) λhc ho=>?_
   . refine run 3 ?_;refine zaA [4,8] (by kernel_rfl) ?_;obtain ⟨xa,hd,xb,he,xd,hf,ho⟩:=zpT ho;obtain ⟨xe,hg,ho⟩:=bnd ho;refine gap λva=>?_;exact lv [va] [1,0] ho
   . exact lv [(gh ga 0)] [1] ho
 . exact we ho⟩
instance i22 {p_0 l_1}:FI ktab 22 (zdG p_0 l_1) [.val zbl p_0,.val zdk l_1] (λout=>[wB out]):=⟨λout ho=>by
 delta zdG at ho;refine fn λ_ _=>?_;refine gcl ho λy1 hy1 ho=>?_;refine gct ho (λhq2 ho=>?_) λhq2 ho=>?_
 . exact we ho
 . obtain ⟨ta,ha,ho⟩:=bnd ho;refine gl2 ha ho [2,3] [] [] (λs g=>([(5,vI s)],[])) (λb=>(.exit 0,λg=>([],[]))) (λb=>(.ret,λg=>([(4,vB b)],[]))) [] (λsa gb _ ho=>?_) (λba ho ga=>?_) λbb ho ga=>?_
   . refine gct ho (λhc ho=>?_) λhc ho=>?_
     . refine gcl ho λya he ho=>?_;intro va;show zo ..;refine gct ho (λhd ho=>?_) λhd ho=>?_
       . exact we ho
       . refine gcl ho λyb hf ho=>?_;intro vb;exact we ho
     . exact lv [] [] ho
   . exact we ho
   . exact rv ho⟩
instance i26 {p_0 s_1}:FI ktab 26 (zfi p_0 s_1) [.val zbl p_0,.val zdR s_1] (λout=>[wB out]):=⟨λout ho=>by
 delta zfi at ho;refine fn λ_ _=>?_;obtain ⟨ta,ha,ho⟩:=bnd ho;refine gl2 ha ho [2,3] [] [] (λs g=>([(5,vI s)],[])) (λb=>(.exit 0,λg=>([],[]))) (λb=>(.ret,λg=>([(4,vB b)],[]))) [] (λs5 g6 _ ho=>?_) (λba ho ga=>?_) λbb ho ga=>?_
 . exact we ho
 . obtain ⟨ca,hc,ho⟩:=bnd ho;refine run 1 ?_;refine gcx ca [] [] (λt=>(.normal,λ_=>([(4,vB t)],[]))) ?_ λ_=>?_
   . exact we hc
   . exact rv ho
 . exact rv ho⟩
instance i27 {p_0 s_1}:FI ktab 27 (zc0 p_0 s_1) [.val zbl p_0,.val zdR s_1] (λout=>[wB out]):=⟨λout ho=>by
 delta zc0 at ho;refine fn λ_ _=>?_;obtain ⟨c6,hc6,ho⟩:=bnd ho;refine run 8 ?_;refine gcx c6 [2,3] [] (λt=>(.normal,λ_=>([(33,vB t)],[]))) ?_ λ_=>?_
 . exact we hc6
 . refine gct ho (λha ho=>?_) λha ho=>?_
   . exact we ho
   . obtain ⟨ta,hc,ho⟩:=bnd ho;refine gl2 hc ho [2,3] [] [] (λs g=>([(5,vI s)],[])) (λb=>(.exit 0,λg=>([],[]))) (λb=>(.ret,λg=>([(4,vB b)],[]))) [] (λsa gb _ ho=>?_) (λba ho ga=>?_) λbb ho ga=>?_
     . refine gct ho (λhd ho=>?_) λhd ho=>?_
       . obtain ⟨xa,hg,ho⟩:=bnd ho;refine gcl ho λya hh ho=>?_;refine wbr ho (λhe ho=>?_) λhe ho=>?_
         . refine gk ?_;exact we ho
         . obtain ⟨xb,hi,ho⟩:=bnd ho;refine gcl ho λyb hj ho=>?_;refine wbr ho (λhf ho=>?_) λhf ho=>?_
           . refine gk ?_;exact we ho
           . refine run 3 ?_;exact we ho
       . exact lv [] [] ho
     . exact we ho
     . exact rv ho⟩
instance i85 {p_0 l_1}:FI ktab 85 (zc1 p_0 l_1) [.val zbl p_0,.val (zf zdk) l_1] (λout=>[.row (zaY zi) out.1,wB out.2]):=⟨λout ho=>by
 delta zc1 at ho;refine fn λ_ _=>?_;refine gnr (zaY zi) ?_;refine gcl ho λy1 hy1 ho=>?_;refine gct ho (λhq2 ho=>?_) λhq2 ho=>?_
 . refine gnr (zaY zi) ?_;exact we ho
 . refine gnr (zaY zi) ?_;obtain ⟨ta,ha,ho⟩:=bnd ho;refine gl2 ha ho [2,15,16] [] [0] (λs g=>([(6,.raw (gh g 0)),(17,vI s.2)],[((gh g 0),.row (zaY zi) s.1)])) (λb=>(.exit 0,λg=>([(6,.raw (gh g 0))],[((gh g 0),.row (zaY zi) b)]))) (λb=>(.ret,λg=>([(4,.raw (gh g 0)),(5,vB b.2)],[((gh g 0),.row (zaY zi) b.1)]))) [.nilslice] (λsa ga _ ho=>?_) (λba ho gb=>?_) λbb ho gb=>?_
   . refine gct ho (λhc ho=>?_) λhc ho=>?_
     . obtain ⟨xa,hf,ho⟩:=bnd ho;refine gal λbc=>?_;refine gfz 1 zdk xa 0 [8] ?_;refine gcl ho λya hg ho=>?_;refine gct ho (λhd ho=>?_) λhd ho=>?_
       . refine gnr (zaY zi) ?_;exact lv [.nilslice] [0] ho
       . obtain ⟨pa,he,ho⟩:=bnd ho;refine run 4 ?_;refine zfW (zcJ (n:=30) he rfl) ?_;obtain ⟨xb,hh,ho⟩:=bnd ho;refine gap λva=>?_;exact lv [va] [0] ho
     . exact lv [(gh ga 0)] [0] ho
   . exact we ho
   . exact rv ho⟩
instance i69 {p_0 s_1}:FI ktab 69 (zcr p_0 s_1) [.val zbl p_0,.val zdR s_1] (λout=>[.val (zf (zaY zi)) out.1,wB out.2]):=⟨λout ho=>by
 delta zcr at ho;refine fn λ_ _=>?_;refine run 4 ?_;refine zdO (.n rfl) rfl rfl (.nil (R:=(zaY zi))) ?_;obtain ⟨c2,hc2,ho⟩:=bnd ho;refine run 4 ?_;refine gcx c2 [2,3] [] (λt=>(.normal,λ_=>([(23,vB t)],[]))) ?_ λ_=>?_
 . exact we hc2
 . refine gct ho (λhq4 ho=>?_) λhq4 ho=>?_
   . refine run 2 ?_;refine zdO (.n rfl) rfl rfl (.nil (R:=(zaY zi))) ?_;exact we ho
   . obtain ⟨ta,ha,ho⟩:=bnd ho;refine gl2 ha ho [2,3,25,26] [] [] (λs g=>([(27,vI s)],[])) (λb=>(.exit 0,λg=>([],[]))) (λb=>(.ret,λg=>([(4,.val (zf (zaY zi)) b.1),(5,vB b.2)],[]))) [] (λsa gb _ ho=>?_) (λba ho ga=>?_) λbb ho ga=>?_
     . refine gct ho (λhc ho=>?_) λhc ho=>?_
       . obtain ⟨xa,hf,ho⟩:=bnd ho;refine gcl ho λya hg ho=>?_;refine wbr ho (λhd ho=>?_) λhd ho=>?_
         . refine gk ?_;refine run 2 ?_;refine zdO (.n rfl) rfl rfl (.nil (R:=(zaY zi))) ?_;exact we ho
         . obtain ⟨xb,hh,ho⟩:=bnd ho;refine gcl ho λyb hi ho=>?_;refine gct ho (λhe ho=>?_) λhe ho=>?_
           . refine run 2 ?_;refine zdO (.n rfl) rfl rfl (.nil (R:=(zaY zi))) ?_;exact we ho
           . exact we ho
       . exact lv [] [] ho
     . refine gcl ho λyc hj ho=>?_;intro va;show zo ..;refine run 5 ?_;cases ho;refine znF (zjD 0 [51,4] rfl rfl ⟨rfl,rfl,trivial⟩) ?_;exact zeQ (zdg (.inr rfl) (.v rfl (.v rfl .n)) (by decide))
     . exact rv ho⟩
end Go.Ai.TabYtppebpagcocogaaGreat