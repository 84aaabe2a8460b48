/- Written by program: walks through functions. -/
import Derived.Test.YtfamdelkpempgaaGreatW11
import Derived.Test.YtfamdelkpempgaaGreatW18
import Derived.Test.YtfamdelkpempgaaGreatW21
import Derived.Test.YtfamdelkpempgaaGreatW19
set_option linter.unusedSimpArgs false
set_option linter.unusedVariables false
set_option linter.unusedSectionVars false
open Option renaming some→Ob
namespace Go.Ai.TabYtfamdelkpempgaaGreat
open Go Go.Ai Go.Ai.Sx Go.Proofs
attribute [local irreducible] zr
set_option maxRecDepth 100000
set_option maxHeartbeats 4000000
instance i185 {e d f c stops_4}:FI ktab 185 (zex e d f c stops_4) [.val zbI e,.val (ze zT) d,.val zb1 f,vI c,.val (ze (zi .i64)) stops_4] (λout=>[.row zgE out.1,wB out.2]):=⟨λout ho=>by
 delta zex at ho;refine fn λ_ _=>?_;refine gnr zgE ?_;obtain ⟨x3,hx3,ho⟩:=bnd ho;refine gal λb4=>?_;refine gnr zgE ?_;obtain ⟨ta,ha,ho⟩:=bnd ho;refine gl2 ha ho [1,3,4,5,7] [] [1,0] (λs g=>([(12,.raw (.ptr b4 0)),(13,.raw (gh g 0)),(14,vI s.2.1)],[(.ptr b4 0,.box [vI s.2.2.1,vI s.d3]),(gh g 0,.row zgE s.1)])) (λb=>(.exit 0,λg=>([(12,.raw (.ptr b4 0)),(13,.raw (gh g 0))],[(.ptr b4 0,.box [vI b.2.1,vI b.2.2]),(gh g 0,.row zgE b.1)]))) (λb=>(.ret,λg=>([(10,.raw (gh g 0)),(11,vB b.2)],[(gh g 0,.row zgE b.1)]))) [.nsz] (λsb ga _ ho=>?_) (λbc ho gc=>?_) λbd ho gc=>?_
 . refine gct ho (λhc ho=>?_) λhc ho=>?_
   . obtain ⟨xa,hm,ho⟩:=bnd ho;refine gal λbe=>?_;refine gfz 1 zam ((e,d,f,c,xa,()):zaf) 0 [15] ?_;refine gal λbb=>?_;obtain ⟨tb,hd,ho⟩:=bnd ho;refine gl2 hd ho [1,3,4,5,7,12,13,14,15,16] [] [0,1,2] (λs g=>([(17,vI s.1)],[(.ptr bb 0,.box [vI s.2.1,vI 0,vI s.2.2.1,vI s.d3.1,vI s.d4.1,vI s.d5.1,vI s.d6.1,vI s.d7.1,vI s.d8.1,vI s.d9.1]),(.ptr b4 0,.box [vI s.d9.2.1,vI s.d9.2.2]),(gh ga 0,.row zgE sb.1)])) (λb=>(.exit 2,λg=>([(53,.val zb1 b.1),(54,.val zx b.2.1),(55,vI b.2.2.1),(56,.val (ze (zi .i64)) b.d3.1),(57,vI b.d4.1),(58,.val (zaO (zi .i64)) b.d5.1),(59,vI b.d6.1),(60,vI b.d7.1),(61,vB b.d8.1)],[(.ptr bb 0,.box [vI b.d9.1,vI 0,vI b.d9.2.1,vI b.d9.2.2.1,vI b.d9.d3.1,vI b.d9.d4.1,vI b.d9.d5.1,vI b.d9.d6.1,vI b.d9.d7.1,vI b.d9.d8.1]),(.ptr b4 0,.box [vI b.d9.d9.1,vI b.d9.d9.2]),(gh ga 0,.row zgE sb.1)]))) (λb=>(.ret,λg=>([(10,.raw (gh g 0)),(11,vB b.2.1)],[(gh g 0,.row zgE b.1)]))) [] (λsa gd _ ho=>?_) (λba ho gb=>?_) λbf ho gb=>?_
     . refine run 2 ?_;refine zax [1,5] Z ?_;refine wbr ho (λhe ho=>?_) λhe ho=>?_
       . refine gk ?_;refine wbr ho (λhf ho=>?_) λhf ho=>?_
         . refine gk ?_;refine gnr zgE ?_;exact lv [.nsz] [0] ho
         . refine gct ho (λhg ho=>?_) λhg ho=>?_
           . refine gnr zgE ?_;exact lv [.nsz] [0] ho
           . refine glb (sa.d9.2.1,sa.d9.2.2,()) 1 ?_;refine gcl ho λyf hn ho=>?_;refine gct ho (λhh ho=>?_) λhh ho=>?_
             . refine gnr zgE ?_;exact lv [.nsz] [0] ho
             . refine run 2 ?_;refine zax [2] Z ?_;refine glb (sa.d9.2.1,sa.d9.2.2,()) 1 ?_;refine gcl ho λyg hp ho=>?_;refine gcl ho λyh hr ho=>?_;refine glb (sa.d9.2.1,sa.d9.2.2,()) 1 ?_;refine gcl ho λyi hs ho=>?_;refine glb (sa.d9.2.1,sa.d9.2.2,()) 1 ?_;refine gcl ho λyc ht ho=>?_;refine gal λbg=>?_;refine gal λbh=>?_;refine gfz 1 zx yc.1 1 [23] ?_;refine gfz 1 zC yc.2.1 0 [24] ?_;refine run 32 ?_;refine zjU (R:=zC) (a:=(sa.2.2.1,sa.d3.1,sa.d4.1,sa.d5.1,sa.d6.1,sa.d7.1,())) (off:=2) 0 (λ_ h=>by cases h<;>rfl) iu' zb2 Og (.n rfl) rfl rfl (.t rfl) rfl ?_;refine gcl ho λya hu ho=>?_;refine run 1 ?_;refine zgr (off:=2) (es':=[vI ya.1,vI ya.2.1,vI ya.2.2.1,vI ya.d3.1,vI ya.d4.1,vI ya.d5.1]) 0 iu' rfl zb2 Og (.n rfl) rfl rfl (.t rfl) (.t rfl) Om ?_;exact lv [] [0,1,2] ho
       . refine glb (sa.d9.2.1,sa.d9.2.2,()) 1 ?_;refine gcl ho λyj hv ho=>?_;obtain ⟨xb,hw,ho⟩:=bnd ho;refine gct ho (λhi ho=>?_) λhi ho=>?_
         . refine wbr ho (λhj ho=>?_) λhj ho=>?_
           . refine gk ?_;refine gnr zgE ?_;exact lv [.nsz] [0] ho
           . refine gct ho (λhk ho=>?_) λhk ho=>?_
             . refine gnr zgE ?_;exact lv [.nsz] [0] ho
             . refine glb (sa.d9.2.1,sa.d9.2.2,()) 1 ?_;refine gcl ho λyk hy ho=>?_;refine gct ho (λhl ho=>?_) λhl ho=>?_
               . refine gnr zgE ?_;exact lv [.nsz] [0] ho
               . refine run 2 ?_;refine zax [2] Z ?_;refine glb (sa.d9.2.1,sa.d9.2.2,()) 1 ?_;refine gcl ho λyl hz ho=>?_;refine gcl ho λym hA ho=>?_;refine glb (sa.d9.2.1,sa.d9.2.2,()) 1 ?_;refine gcl ho λyn hB ho=>?_;refine glb (sa.d9.2.1,sa.d9.2.2,()) 1 ?_;refine gcl ho λyd hC ho=>?_;refine gal λbi=>?_;refine gal λbj=>?_;refine gfz 1 zx yd.1 1 [23] ?_;refine gfz 1 zC yd.2.1 0 [24] ?_;refine run 32 ?_;refine zjU (R:=zC) (a:=(sa.2.2.1,sa.d3.1,sa.d4.1,sa.d5.1,sa.d6.1,sa.d7.1,())) (off:=2) 0 (λ_ h=>by cases h<;>rfl) iu' zb2 Og (.n rfl) rfl rfl (.t rfl) rfl ?_;refine gcl ho λyb hD ho=>?_;refine run 1 ?_;refine zgr (off:=2) (es':=[vI yb.1,vI yb.2.1,vI yb.2.2.1,vI yb.d3.1,vI yb.d4.1,vI yb.d5.1]) 0 iu' rfl zb2 Og (.n rfl) rfl rfl (.t rfl) (.t rfl) Om ?_;exact lv [] [0,1,2] ho
         . exact lv [] [0,1,2] ho
     . refine glb (ba.d9.d9.1,ba.d9.d9.2,()) 1 ?_;refine gcl ho λye hE ho=>?_;refine glb (ba.d9.1,ye,(ba.d9.2.1,ba.d9.2.2.1,ba.d9.d3.1,ba.d9.d4.1,ba.d9.d5.1,ba.d9.d6.1,()),ba.d9.d7.1,ba.d9.d8.1,()) 0 ?_;obtain ⟨xd,hF,ho⟩:=bnd ho;refine gap λva=>?_;exact lv [va] [2,0] ho
     . cases ho; exact id (lf [gh gb 0] [0])
   . exact lv [gh ga 0] [0,1] ho
 . refine run 1 ?_;refine zax [2] Z ?_;exact we ho
 . exact rv ho⟩
instance i157 {d c e a stops_4}:FI ktab 157 (zfV d c e a stops_4) [.val zbI d,.val (ze zT) c,.val zb1 e,vI a,.val (ze (zi .i64)) stops_4] (λout=>[.row (zi .i64) out.1,wB out.2]):=⟨λout ho=>by
 delta zfV at ho;refine fn λ_ _=>?_;refine gnr (zi .i64) ?_;refine gcl ho λy1 hy1 ho=>?_;refine gct ho (λhq2 ho=>?_) λhq2 ho=>?_
 . refine gnr (zi .i64) ?_;exact we ho
 . refine gcl ho λy3 hy3 ho=>?_;intro v4;show zr ..;refine gnr (zi .i64) ?_;obtain ⟨ta,ha,ho⟩:=bnd ho;refine glp ha [12,13] [] [1,0] (λs g=>([(14,.raw (gh g 0)),(15,vI s.2)],[(v4,.row zgE y3.1),(gh g 0,.row (zi .i64) s.1)])) (λb=>(.exit 0,λg=>([(14,.raw (gh g 0))],[(gh g 0,.row (zi .i64) b)]))) [.nsz] (λs9 ga _ ho=>?_) λgb=>?_
   . refine gct ho (λhc ho=>?_) λhc ho=>?_
     . obtain ⟨xa,hd,ho⟩:=bnd ho;refine run 9 ?_;refine zmv 0 (λ_ h=>by cases h<;>rfl) iu' zu8 (zfq hd).2.2.2 (.n rfl) rfl rfl (.t rfl) rfl ?_;obtain ⟨xb,he,ho⟩:=bnd ho;refine gap λva=>?_;exact lv [va] [1,0] ho
     . exact lv [gh ga 0] [1] ho
   . exact we ho⟩
instance i116 {a c home_2}:FI ktab 116 (zc7 a c home_2) [.val zbI a,.val zdP c,vB home_2] (λout=>[.row (zi .i64) out.1,wB out.2]):=⟨λout ho=>by
 delta zc7 at ho;refine fn λ_ _=>?_;refine gnr (zi .i64) ?_;refine gcl ho λy1 hy1 ho=>?_;refine gal λb2=>?_;refine gfz 1 zb0 y1 0 [8] ?_;obtain ⟨ca,ha,ho⟩:=bnd ho;refine run 3 ?_;refine gcx ca [3,4,8] [0] (λt=>(.normal,λ_=>([(55,vB t)],[]))) ?_ λ_=>?_
 . have ho:=ha;refine gcl ho λyb hs ho=>?_;refine wbr ho (λhc ho=>?_) λhc ho=>?_
   . exact lv [] [0] ho
   . refine gcl ho λyc ht ho=>?_;refine wbr ho (λhd ho=>?_) λhd ho=>?_
     . exact lv [] [0] ho
     . refine wbr ho (λhe ho=>?_) λhe ho=>?_
       . exact lv [] [0] ho
       . obtain ⟨xa,hu,ho⟩:=bnd ho;refine wbr ho (λhf ho=>?_) λhf ho=>?_
         . exact lv [] [0] ho
         . obtain ⟨xb,hv,ho⟩:=bnd ho;exact lv [] [0] ho
 . refine gct ho (λhg ho=>?_) λhg ho=>?_
   . refine gnr (zi .i64) ?_;exact we ho
   . obtain ⟨ta,hh,ho⟩:=bnd ho;refine gl2 hh ho [3,4,8] [] [] (λs g=>([(9,vI s)],[])) (λb=>(.exit 0,λg=>([],[]))) (λb=>(.ret,λg=>([(6,.raw (gh g 0)),(7,vB b.2)],[(gh g 0,.row (zi .i64) b.1)]))) [] (λsa gc _ ho=>?_) (λba ho ga=>?_) λbb ho ga=>?_
     . refine gct ho (λhi ho=>?_) λhi ho=>?_
       . obtain ⟨xd,hw,ho⟩:=bnd ho;refine gcl ho λyd hy ho=>?_;refine gcl ho λye hz ho=>?_;refine wbr ho (λhj ho=>?_) λhj ho=>?_
         . refine gk ?_;refine gnr (zi .i64) ?_;exact lv [.nsz] [0] ho
         . obtain ⟨xe,hA,ho⟩:=bnd ho;refine gcl ho λyf hB ho=>?_;refine wbr ho (λhk ho=>?_) λhk ho=>?_
           . refine gk ?_;refine gnr (zi .i64) ?_;exact lv [.nsz] [0] ho
           . refine wbr ho (λhl ho=>?_) λhl ho=>?_
             . refine run 9 ?_;obtain ⟨xf,hC,xg,hD,ho⟩:=zge ho;refine gct ho (λhm ho=>?_) λhm ho=>?_
               . refine gnr (zi .i64) ?_;exact lv [.nsz] [0] ho
               . exact we ho
             . refine gk ?_;exact we ho
       . exact lv [] [] ho
     . refine gcl ho λya hE ho=>?_;intro va;show zr ..;refine gct ho (λhn ho=>?_) λhn ho=>?_
       . refine gnr (zi .i64) ?_;exact we ho
       . refine gnr (zi .i64) ?_;obtain ⟨tb,hp,ho⟩:=bnd ho;refine glp hp [10] [] [1,0] (λs g=>([(12,.raw (gh g 0)),(13,vI s.2)],[(va,.row (zi .i64) ya.1),(gh g 0,.row (zi .i64) s.1)])) (λb=>(.exit 2,λg=>([(12,.raw (gh g 0))],[(gh g 0,.row (zi .i64) b)]))) [.nsz] (λsb gb _ ho=>?_) λgd=>?_
         . refine gct ho (λhr ho=>?_) λhr ho=>?_
           . obtain ⟨xh,hF,xi,hG,xj,hH,ho⟩:=zsK ho;refine gap λvb=>?_;exact lv [vb] [1,0] ho
           . exact lv [gh gb 0] [1] ho
         . exact we ho
     . exact rv ho⟩
instance i53 {a b home_2}:FI ktab 53 (zfb a b home_2) [.val zbI a,.val zdP b,vB home_2] (λout=>[.row (zi .i64) out]):=⟨λout ho=>by
 delta zfb at ho;refine fn λ_ _=>?_;refine run 4 ?_;refine zdF (.n rfl) rfl rfl (.nil (R:=zi .i64)) ?_;refine gcl ho λy1 hy1 ho=>?_;intro v2;exact we ho⟩
instance i54 {a d home_2}:FI ktab 54 (zbq a d home_2) [.val zbI a,.val zdP d,vB home_2] (λout=>[.row (zi .i64) out]):=⟨λout ho=>by
 delta zbq at ho;refine fn λ_ _=>?_;refine gnr (zi .i64) ?_;refine gcl ho λy1 hy1 ho=>?_;refine gal λb2=>?_;refine gfz 1 zb0 y1 0 [7] ?_;refine gcl ho λy3 hy3 ho=>?_;intro v4;show zr ..;refine run 4 ?_;refine zzC (R:=zi .i64) is' iy' (.n rfl) rfl rfl (.c (.i Oa Oa) .n) rfl Oa ?_;intro v5;obtain ⟨ta,ha,ho⟩:=bnd ho;refine glp ha [7,8] [] [1,0] (λs g=>([(9,.raw (gh g 0)),(10,vI s.2)],[(v4,.row (zi .i64) y3),(gh g 0,.row (zi .i64) s.1)])) (λb=>(.exit 0,λg=>([(9,.raw (gh g 0))],[(gh g 0,.row (zi .i64) b)]))) [v5] (λsa ga _ ho=>?_) λgb=>?_
 . refine gct ho (λhc ho=>?_) λhc ho=>?_
   . refine run 3 ?_;refine zax [4,8] Z ?_;obtain ⟨xa,hd,xb,he,xd,hf,ho⟩:=zsK ho;obtain ⟨xe,hg,ho⟩:=bnd ho;refine gap λva=>?_;exact lv [va] [1,0] ho
   . exact lv [gh ga 0] [1] ho
 . exact we ho⟩
instance i133 {a l_1}:FI ktab 133 (zeg a l_1) [.val zbI a,.val zdP l_1] (λout=>[wB out]):=⟨λout ho=>by
 delta zeg at ho;refine fn λ_ _=>?_;refine gcl ho λy1 hy1 ho=>?_;refine gct ho (λhq2 ho=>?_) λhq2 ho=>?_
 . exact we ho
 . obtain ⟨ta,ha,ho⟩:=bnd ho;refine gl2 ha ho [2,3] [] [] (λs g=>([(5,vI s)],[])) (λb=>(.exit 0,λg=>([],[]))) (λb=>(.ret,λg=>([(4,vB b)],[]))) [] (λsa gb _ ho=>?_) (λba ho ga=>?_) λbb ho ga=>?_
   . refine gct ho (λhc ho=>?_) λhc ho=>?_
     . refine gcl ho λya he ho=>?_;intro va;show zr ..;refine gct ho (λhd ho=>?_) λhd ho=>?_
       . exact we ho
       . refine gcl ho λyb hf ho=>?_;intro vb;exact we ho
     . exact lv [] [] ho
   . exact we ho
   . exact rv ho⟩
instance i77 {a s_1}:FI ktab 77 (zcY a s_1) [.val zbI a,.val zd6 s_1] (λout=>[wB out]):=⟨λout ho=>by
 delta zcY at ho;refine fn λ_ _=>?_;obtain ⟨c6,hc6,ho⟩:=bnd ho;refine run 8 ?_;refine gcx c6 [2,3] [] (λt=>(.normal,λ_=>([(33,vB t)],[]))) ?_ λ_=>?_
 . exact we hc6
 . refine gct ho (λha ho=>?_) λha ho=>?_
   . exact we ho
   . obtain ⟨ta,hc,ho⟩:=bnd ho;refine gl2 hc ho [2,3] [] [] (λs g=>([(5,vI s)],[])) (λb=>(.exit 0,λg=>([],[]))) (λb=>(.ret,λg=>([(4,vB b)],[]))) [] (λsa gb _ ho=>?_) (λba ho ga=>?_) λbb ho ga=>?_
     . refine gct ho (λhd ho=>?_) λhd ho=>?_
       . obtain ⟨xa,hg,ho⟩:=bnd ho;refine gcl ho λya hh ho=>?_;refine wbr ho (λhe ho=>?_) λhe ho=>?_
         . refine gk ?_;exact we ho
         . obtain ⟨xb,hi,ho⟩:=bnd ho;refine gcl ho λyb hj ho=>?_;refine wbr ho (λhf ho=>?_) λhf ho=>?_
           . refine gk ?_;exact we ho
           . refine run 3 ?_;exact we ho
       . exact lv [] [] ho
     . exact we ho
     . exact rv ho⟩
instance i31 {a s_1}:FI ktab 31 (zhl a s_1) [.val zbI a,.val zd6 s_1] (λout=>[wB out]):=⟨λout ho=>by
 delta zhl at ho;refine fn λ_ _=>?_;obtain ⟨c5,hc5,ho⟩:=bnd ho;refine run 8 ?_;refine gcx c5 [2,3] [] (λt=>(.normal,λ_=>([(29,vB t)],[]))) ?_ λ_=>?_
 . exact we hc5
 . refine gct ho (λha ho=>?_) λha ho=>?_
   . exact we ho
   . obtain ⟨ta,hc,ho⟩:=bnd ho;refine glp hc [2,3] [] [] (λs g=>([(5,vI s.1),(6,vI s.2)],[])) (λb=>(.exit 0,λg=>([(5,vI b)],[]))) [] (λsa gb _ ho=>?_) λgc=>?_
     . exact we ho
     . obtain ⟨tb,hd,ho⟩:=bnd ho;refine gl2 hd ho [2,3,5] [] [] (λs g=>([(7,vI s)],[])) (λb=>(.exit 2,λg=>([],[]))) (λb=>(.ret,λg=>([(4,vB b)],[]))) [] (λsb gd _ ho=>?_) (λba ho ga=>?_) λbb ho ga=>?_
       . refine gct ho (λhe ho=>?_) λhe ho=>?_
         . obtain ⟨xa,hm,ho⟩:=bnd ho;refine gal λbc=>?_;refine gfz 1 zdP xa 0 [8] ?_;refine wbr ho (λhf ho=>?_) λhf ho=>?_
           . refine gk ?_;exact we ho
           . refine wbr ho (λhg ho=>?_) λhg ho=>?_
             . refine gk ?_;exact we ho
             . refine wbr ho (λhh ho=>?_) λhh ho=>?_
               . refine gk ?_;exact we ho
               . refine wbr ho (λhi ho=>?_) λhi ho=>?_
                 . refine gk ?_;exact we ho
                 . refine wbr ho (λhj ho=>?_) λhj ho=>?_
                   . refine gk ?_;exact we ho
                   . refine wbr ho (λhk ho=>?_) λhk ho=>?_
                     . refine gk ?_;exact we ho
                     . refine run 42 ?_;exact we ho
         . exact lv [] [] ho
       . obtain ⟨ca,hl,ho⟩:=bnd ho;refine run 1 ?_;refine gcx ca [] [] (λt=>(.normal,λ_=>([(4,vB t)],[]))) ?_ λ_=>?_
         . exact we hl
         . exact rv ho
       . exact rv ho⟩
instance i13 {b a home_2}:FI ktab 13 (zcg b a home_2) [.val zlR b,vI a,vB home_2] (λout=>[.val zb0 out]):=fw
instance i55 {b a high_2}:FI ktab 55 (zeh b a high_2) [vI b,vI a,vI high_2] (λout=>[wB out]):=⟨λout ho=>by
 delta zeh at ho;refine fn λ_ _=>?_;obtain ⟨c4,hc4,ho⟩:=bnd ho;refine run 5 ?_;refine gcx c4 [] [] (λt=>(.normal,λ_=>([(6,vB t)],[]))) ?_ λ_=>?_
 . exact we hc4
 . exact rv ho⟩
instance i78 {a w_1}:FI ktab 78 (zey a w_1) [.val zbI a,.val (ze zc6) w_1] (λout=>[wB out]):=⟨λout ho=>by
 delta zey at ho;refine fn λ_ _=>?_;obtain ⟨ta,ha,ho⟩:=bnd ho;refine gl2 ha ho [1,2] [] [] (λs g=>([(5,vI s)],[])) (λb=>(.exit 0,λg=>([],[]))) (λb=>(.ret,λg=>([(4,vB b)],[]))) [] (λsa gb _ ho=>?_) (λba ho ga=>?_) λbb ho ga=>?_
 . refine gct ho (λhc ho=>?_) λhc ho=>?_
   . obtain ⟨xa,hf,ho⟩:=bnd ho;refine gcl ho λya hg ho=>?_;refine wbr ho (λhd ho=>?_) λhd ho=>?_
     . refine gk ?_;exact we ho
     . refine run 4 ?_;obtain ⟨xb,hh,ho⟩:=bnd ho;refine run 5 ?_;obtain ⟨xd,hi,ho⟩:=bnd ho;refine gcl ho λyb hj ho=>?_;refine wbr ho (λhe ho=>?_) λhe ho=>?_
       . refine gk ?_;exact we ho
       . refine run 3 ?_;exact we ho
   . exact lv [] [] ho
 . exact we ho
 . exact rv ho⟩
instance i32 {d_0}:FI ktab 32 (zfv d_0) [.val zlR d_0] (λout=>[wB out]):=⟨λout ho=>by
 delta zfv at ho;refine fn λ_ _=>?_;obtain ⟨c8,hc8,ho⟩:=bnd ho;refine run 7 ?_;refine gcx c8 [1] [] (λt=>(.normal,λ_=>([(37,vB t)],[]))) ?_ λ_=>?_
 . exact we hc8
 . refine gct ho (λha ho=>?_) λha ho=>?_
   . exact we ho
   . obtain ⟨ta,hc,ho⟩:=bnd ho;refine gl2 hc ho [1] [] [] (λs g=>([(3,vI s)],[])) (λb=>(.exit 0,λg=>([],[]))) (λb=>(.ret,λg=>([(2,vB b)],[]))) [] (λsa gb _ ho=>?_) (λba ho ga=>?_) λbb ho ga=>?_
     . refine gct ho (λhd ho=>?_) λhd ho=>?_
       . obtain ⟨xa,hh,ho⟩:=bnd ho;refine gal λbc=>?_;refine gfz 1 za5 xa 0 [4] ?_;refine gcl ho λya hi ho=>?_;refine wbr ho (λhe ho=>?_) λhe ho=>?_
         . refine gk ?_;exact we ho
         . refine gcl ho λyb hj ho=>?_;refine gct ho (λhf ho=>?_) λhf ho=>?_
           . exact we ho
           . refine gcl ho λyc hk ho=>?_;refine gcl ho λyd hl ho=>?_;refine wbr ho (λhg ho=>?_) λhg ho=>?_
             . refine gk ?_;exact we ho
             . exact we ho
       . exact lv [] [] ho
     . exact we ho
     . exact rv ho⟩
instance i8 {d_0}:FI ktab 8 (zdv d_0) [.val zlR d_0] (λout=>[wB out]):=⟨λout ho=>by
 delta zdv at ho;refine fn λ_ _=>?_;obtain ⟨c7,hc7,ho⟩:=bnd ho;refine run 6 ?_;refine gcx c7 [] [] (λt=>(.normal,λ_=>([(2,vB t)],[]))) ?_ λ_=>?_
 . exact we hc7
 . exact rv ho⟩
instance i88 {a l_1}:FI ktab 88 (zdy a l_1) [.val zbI a,.val (ze zdP) l_1] (λout=>[.row (zaO zk) out.1,wB out.2]):=⟨λout ho=>by
 delta zdy at ho;refine fn λ_ _=>?_;refine gnr (zaO zk) ?_;refine gcl ho λy1 hy1 ho=>?_;refine gct ho (λhq2 ho=>?_) λhq2 ho=>?_
 . refine gnr (zaO zk) ?_;exact we ho
 . refine gnr (zaO zk) ?_;obtain ⟨ta,ha,ho⟩:=bnd ho;refine gl2 ha ho [2,15,16] [] [0] (λs g=>([(6,.raw (gh g 0)),(17,vI s.2)],[(gh g 0,.row (zaO zk) s.1)])) (λb=>(.exit 0,λg=>([(6,.raw (gh g 0))],[(gh g 0,.row (zaO zk) b)]))) (λb=>(.ret,λg=>([(4,.raw (gh g 0)),(5,vB b.2)],[(gh g 0,.row (zaO zk) b.1)]))) [.nsz] (λsa ga _ ho=>?_) (λba ho gb=>?_) λbb ho gb=>?_
   . refine gct ho (λhc ho=>?_) λhc ho=>?_
     . obtain ⟨xa,hf,ho⟩:=bnd ho;refine gal λbc=>?_;refine gfz 1 zdP xa 0 [8] ?_;refine gcl ho λya hg ho=>?_;refine gct ho (λhd ho=>?_) λhd ho=>?_
       . refine gnr (zaO zk) ?_;exact lv [.nsz] [0] ho
       . obtain ⟨pa,he,ho⟩:=bnd ho;refine run 4 ?_;refine zem (zb7 (n:=30) he rfl) ?_;obtain ⟨xb,hh,ho⟩:=bnd ho;refine gap λva=>?_;exact lv [va] [0] ho
     . exact lv [gh ga 0] [0] ho
   . exact we ho
   . exact rv ho⟩
instance i38 {a s_1}:FI ktab 38 (zcq a s_1) [.val zbI a,.val zd6 s_1] (λout=>[.val (ze (zaO zk)) out.1,wB out.2]):=⟨λout ho=>by
 delta zcq at ho;refine fn λ_ _=>?_;refine run 4 ?_;refine zdF (.n rfl) rfl rfl (.nil (R:=zaO zk)) ?_;obtain ⟨c4,hc4,ho⟩:=bnd ho;refine run 4 ?_;refine gcx c4 [2,3] [] (λt=>(.normal,λ_=>([(23,vB t)],[]))) ?_ λ_=>?_
 . exact we hc4
 . refine gct ho (λhq6 ho=>?_) λhq6 ho=>?_
   . refine run 2 ?_;refine zdF (.n rfl) rfl rfl (.nil (R:=zaO zk)) ?_;exact we ho
   . obtain ⟨ta,ha,ho⟩:=bnd ho;refine gl2 ha ho [2,3,25,26] [] [] (λs g=>([(27,vI s)],[])) (λb=>(.exit 0,λg=>([],[]))) (λb=>(.ret,λg=>([(4,.val (ze (zaO zk)) b.1),(5,vB b.2)],[]))) [] (λsa gb _ ho=>?_) (λba ho ga=>?_) λbb ho ga=>?_
     . refine gct ho (λhc ho=>?_) λhc ho=>?_
       . obtain ⟨xa,hf,ho⟩:=bnd ho;refine gcl ho λya hg ho=>?_;refine wbr ho (λhd ho=>?_) λhd ho=>?_
         . refine gk ?_;refine run 2 ?_;refine zdF (.n rfl) rfl rfl (.nil (R:=zaO zk)) ?_;exact we ho
         . obtain ⟨xb,hh,ho⟩:=bnd ho;refine gcl ho λyb hi ho=>?_;refine gct ho (λhe ho=>?_) λhe ho=>?_
           . refine run 2 ?_;refine zdF (.n rfl) rfl rfl (.nil (R:=zaO zk)) ?_;exact we ho
           . exact we ho
       . exact lv [] [] ho
     . refine gcl ho λyc hj ho=>?_;intro va;show zr ..;refine run 5 ?_;cases ho;refine zlK (zix 0 [51,4] rfl rfl ⟨rfl,rfl,trivial⟩) ?_;exact zfr (zds (.inr rfl) (.v rfl (.v rfl .n)) Oa)
     . exact rv ho⟩
instance i138 {a f_1}:FI ktab 138 (zab a f_1) [.val (ze zc6) a,.val (rFn ktab Works Bool (λx=>[.val zc6 x]) (λy=>[.val zaS y])) f_1] (λout=>[wI out]):=⟨λout ho=>by
 delta zab at ho;refine fn λ_ _=>?_;obtain ⟨ta,ha,ho⟩:=bnd ho;refine gl2 ha ho [0,1,7] [] [] (λs g=>([(8,vI s)],[])) (λb=>(.exit 0,λg=>([],[]))) (λb=>(.ret,λg=>([(4,vI b)],[]))) [] (λs5 g6 _ ho=>?_) (λba ho ga=>?_) λbb ho ga=>?_
 . refine gct ho (λhq7 ho=>?_) λhq7 ho=>?_
   . obtain ⟨x8,hx8,y9,hy9,ho⟩:=zge ho;refine gcv hy9 ?_;exact we ho
   . exact lv [] [] ho
 . exact we ho
 . exact rv ho⟩
instance i89 {a f_1}:FI ktab 89 (zX a f_1) [.val (ze zc6) a,.val (rFn ktab Works Bool (λx=>[.val zc6 x]) (λy=>[.val zaS y])) f_1] (λout=>[wB out]):=fw
instance i90 {a p_1}:FI ktab 90 (zbU a p_1) [.val zc6 a,.val (zaO zbI) p_1] (λout=>[wB out]):=⟨λout ho=>by
 delta zbU at ho;refine fn λ_ _=>?_;obtain ⟨c5,hc5,ho⟩:=bnd ho;refine run 6 ?_;refine gcx c5 [] [] (λt=>(.normal,λ_=>([(3,vB t)],[]))) ?_ λ_=>?_
 . exact we hc5
 . exact rv ho⟩
instance i39 {a w_1}:FI ktab 39 (zcZ a w_1) [.val zbI a,.val (ze zc6) w_1] (λout=>[wB out]):=⟨λout ho=>by
 delta zcZ at ho;refine fn λ_ _=>?_;obtain ⟨c4,hc4,ho⟩:=bnd ho;refine run 6 ?_;refine gcx c4 [] [] (λt=>(.normal,λ_=>([(4,vB t)],[]))) ?_ λ_=>?_
 . have ho:=hc4;refine wbr ho (λhb5 ho=>?_) λhb5 ho=>?_
   . refine run 6 ?_;refine zhM (X:=Works) (Y:=Bool) (λx=>[.val zc6 x]) (λy=>[.val zaS y]) (f:=(λx=>zbU x a)) (λx y hf=>i90.ok _ hf) rfl (.g rfl rfl (gt1 hb5)) rfl rfl .n (.c (.t rfl) .n) ?_;exact we ho
   . exact we ho
 . exact rv ho⟩
instance i42 {a side_1}:FI ktab 42 (zA a side_1) [.val (zaO zk) a,vI side_1] (λout=>[wI out]):=⟨λout ho=>by
 delta zA at ho;refine fn λ_ _=>?_;obtain ⟨x4,hx4,ho⟩:=bnd ho;refine run 10 ?_;refine zcs ia' hx4 (.n rfl) rfl rfl (.t rfl) (.t rfl) ?_;obtain ⟨x5,hx5,ho⟩:=bnd ho;refine run 5 ?_;refine zcs ia' hx5 (.n rfl) rfl rfl (.t rfl) (.t rfl) ?_;exact we ho⟩
instance i139 {r_0}:FI ktab 139 (zbv r_0) [.val (zaO zk) r_0] (λout=>[wI out]):=fw
instance i94 {a headway_1}:FI ktab 94 (zba a headway_1) [.val (zaO zk) a,vI headway_1] (λout=>[wI out]):=fw
instance i92 {c b a offset_3}:FI ktab 92 (zcu c b a offset_3) [.val (zaO zk) c,vI b,vI a,vI offset_3] (λout=>[wI out]):=fw
instance i93 {a h_1}:FI ktab 93 (zcb a h_1) [vI a,vI h_1] (λout=>[wI out]):=fw
end Go.Ai.TabYtfamdelkpempgaaGreat
namespace Go.Ai.TabYtfamdelkpempgaaGreat
open Go Go.Ai Go.Ai.Sx Go.Proofs
attribute [local irreducible] zr
set_option maxRecDepth 100000
set_option maxHeartbeats 4000000
theorem zek {σ τ:Type} {step:σ->(Int×Int)->Option (σ⊕τ)} {yv:zb} {K:σ⊕τ->List zb->Sx.Obj} (hcb:zra ktab yv (λx=>[.val (zi .i64) x.1,.val (zi .i64) x.2]) step K) {s_:σ} {i a e d f out} (ho:zK step s_ i a e d f=Ob out) (γ0:List zb):zh1 ktab 91 [.raw yv,.val (zaO (zaO zk)) i,.val (zaO (zi .i64)) a,.val (zaO (zi .i64)) e,.val (zaO (zi .i64)) d,.val (zaO (zi .i64)) f] [(yv,K (.inl s_) γ0)] [] (λγ=>[(yv,K out (untup (gh γ 0)))]):=by
 refine zeT (F:=Tryz.f91) Om Om Om (λC=>?_);delta zK at ho;refine gcl ho λy1 hy1 ho=>?_;refine gcl ho λy3 hy3 ho=>?_;obtain ⟨ta,ha,ho⟩:=bnd ho;refine glp ha [0,1,3,7] [] [0] (λs g=>([(8,vI s.1)],[(yv,K s.2 (untup (gh g 0)))])) (λb=>(.ret,λg=>([],[(yv,K b (untup (gh g 0)))]))) [.tuple γ0] (λsa gb _ ho=>?_) λga=>?_
 . obtain ⟨xa,he,ho⟩:=bnd ho;refine gcl ho λya hf ho=>?_;refine gcl ho λyb hg ho=>?_;obtain ⟨sb,hs39,ho⟩:=bnd ho;refine zem (znV (K:=K) 0 (zja hs39) rfl rfl) ?_;obtain ⟨yc,hc,ho⟩:=bnd ho;refine zkA [0] [] (λ_ h=>by cases h<;>exact ⟨by kernel_rfl,by kernel_rfl⟩) hcb hc rfl rfl rfl Oa (.n rfl) rfl rfl rfl (.t rfl) (.c (.t rfl) (.c (.t rfl) .n)) ?_;intro va;refine gct ho (λhd ho=>?_) λhd ho=>?_
   . exact lv [.tuple va] [0] ho
   . exact lv [.tuple va] [0] ho
 . cases ho; exact id (za7 [0] [.tuple (untup (gh ga 0))] (.inr rfl) .n rfl Oa)
theorem zeG {σ τ:Type} {step:σ->(Int×Int)->Option (σ⊕τ)} {yv:zb} {K:σ⊕τ->List zb->Sx.Obj} (hcb:zra ktab yv (λx=>[.val (zi .i64) x.1,.val (zi .i64) x.2]) step K) {s_:σ} {e a c b d out} (ho:zK step s_ e a c b d=Ob out) (γ0:List zb):zh1 ktab 91 [.raw yv,.val (zaO (zaO zk)) e,.val (zaO (zi .i64)) a,.val (zaO (zi .i64)) c,.val (zaO (zi .i64)) b,.val (zaO (zi .i64)) d] [(yv,K (.inl s_) γ0)] [] (λγ=>[(yv,K out γ)]):=
 zmB (zek hcb ho γ0)
instance i41 {f d a b from_4}:FI ktab 41 (zat f d a b from_4) [.val (zaO zk) f,vI d,vI a,vI b,vI from_4] (λout=>[.val (zq8 91 [] [.val (zaO (zaO zk)) out.1,.val (zaO (zi .i64)) out.2.1,.val (zaO (zi .i64)) out.2.2.1,.val (zaO (zi .i64)) out.d3.1,.val (zaO (zi .i64)) out.d4]) ()]):=⟨λout ho=>by
 delta zat at ho;refine fn λ_ _=>?_;refine run 7 ?_;refine zal rfl (.n rfl) rfl (e:=.raw .nfz) (λz fr h s=>⟨_,rfl,by simp only [TE.ok]; rfl⟩) ?_;refine run 3 ?_;refine zmz (.n rfl) rfl rfl .n (.c (.t rfl) (.c (.t rfl) (.c (.t rfl) (.c (.t rfl) (.c (.t rfl) .n))))) ?_;exact we ho⟩
instance i140 {a f_1}:FI ktab 140 (zaB a f_1) [.val (ze zT) a,.val (rFn ktab zL Bool (λx=>[.val zT x]) (λy=>[.val zaS y])) f_1] (λout=>[wI out]):=⟨λout ho=>by
 delta zaB at ho;refine fn λ_ _=>?_;obtain ⟨ta,ha,ho⟩:=bnd ho;refine gl2 ha ho [0,1,7] [] [] (λs g=>([(8,vI s)],[])) (λb=>(.exit 0,λg=>([],[]))) (λb=>(.ret,λg=>([(4,vI b)],[]))) [] (λs5 g6 _ ho=>?_) (λba ho ga=>?_) λbb ho ga=>?_
 . refine gct ho (λhq7 ho=>?_) λhq7 ho=>?_
   . obtain ⟨x8,hx8,y9,hy9,ho⟩:=zge ho;refine gcv hy9 ?_;exact we ho
   . exact lv [] [] ho
 . exact we ho
 . exact rv ho⟩
instance i97 {a f_1}:FI ktab 97 (za0 a f_1) [.val (ze zT) a,.val (rFn ktab zL Bool (λx=>[.val zT x]) (λy=>[.val zaS y])) f_1] (λout=>[wB out]):=fw
instance i98 {a p_1}:FI ktab 98 (zbW a p_1) [.val zT a,.val (zaO zc6) p_1] (λout=>[wB out]):=fw
instance i96 {a e b d p_4}:FI ktab 96 (za3 a e b d p_4) [.val zc6 a,.val (zaO (ze zT)) e,.val (zaO (zi .i64)) b,.val (zaO (zaO zk)) d,.val (zaO (zi .i64)) p_4] (λout=>[wB out]):=⟨λout ho=>by
 delta za3 at ho;refine fn λ_ _=>?_;refine run 8 ?_;refine zhM (X:=zL) (Y:=Bool) (λx=>[.val zT x]) (λy=>[.val zaS y]) (f:=(λx=>zbW x a)) (λx y hf=>i98.ok _ hf) rfl (.n rfl) rfl rfl .n (.c (.t rfl) .n) ?_;refine gcl ho λy1 hy1 ho=>?_;obtain ⟨c8,hc8,ho⟩:=bnd ho;refine run 3 ?_;refine gcx c8 [] [] (λt=>(.normal,λ_=>([(6,vB t)],[]))) ?_ λ_=>?_
 . exact we hc8
 . exact rv ho⟩
instance i43 {e d b w_3}:FI ktab 43 (zaD e d b w_3) [.val (zaO zk) e,vI d,vI b,.val (ze zc6) w_3] (λout=>[wB out]):=⟨λout ho=>by
 delta zaD at ho;refine fn λ_ _=>?_;refine gcl ho λy4 hy4 ho=>?_;obtain ⟨x5,hx5,ho⟩:=bnd ho;refine gal λb6=>?_;refine run 1 ?_;refine zem (zdH (R:=ze zT) (a:=x5.1) 0 [9] (zm rfl) rfl rfl ⟨rfl,trivial⟩) ?_;refine run 4 ?_;refine zhM (X:=Works) (Y:=Bool) (λx=>[.val zc6 x]) (λy=>[.val zaS y]) (f:=(λx=>za3 x x5.1 b e d)) (λx y hf=>i96.ok _ hf) rfl (.n rfl) rfl rfl .n (.c (.t rfl) (.c (.t rfl) (.c (.t rfl) (.c (.t rfl) .n)))) ?_;exact we ho⟩
instance i141 {n_1}:FI ktab 141 (zaw n_1) [.raw .nsz,vI n_1] (λout=>[.row z8 out]):=⟨λout ho=>by
 delta zaw at ho;refine fn λ_ _=>?_;refine run 2 ?_;refine zdF (.n rfl) rfl rfl (.nil (R:=z8)) ?_;refine gct ho (λhq1 ho=>?_) λhq1 ho=>?_
 . refine run 1 ?_;cases ho
 . refine run 6 ?_;refine zjZ (et:=48) Z rfl (.n rfl) rfl rfl (.t rfl) ?_;refine run 1 ?_;refine zem (ziC z8 (n:=11) rfl) ?_;refine gct ho (λhq2 ho=>?_) λhq2 ho=>?_
   . refine run 3 ?_;refine zjZ (et:=48) Z rfl (.n rfl) rfl rfl (.t rfl) ?_;refine zsG (et:=48) (n:=4) Z Z (.n rfl) rfl rfl (.t rfl) (.t rfl) ?_;obtain ⟨x3,hx3,ho⟩:=bnd ho;refine run 1 ?_;refine zwq is' iy' iz' Z rfl hx3 rfl (.n rfl) rfl rfl (.t rfl) (.t rfl) rfl ?_;intro v4;refine run 1 ?_;refine zem (ziC z8 (n:=23) rfl) ?_;obtain ⟨x5,hx5,ho⟩:=bnd ho;refine run 1 ?_;refine zwr 0 is' (zsF hx5) (.n rfl) rfl rfl (.t rfl) rfl (.t rfl) rfl ?_;intro v6;exact we ho
   . refine run 6 ?_;cases ho;refine zlK (zdT z8) ?_;exact zfr (zds (.inr rfl) (.r 0 rfl rfl .n) Oa)⟩
instance i99 {slices_0}:FI ktab 99 (zaq slices_0) [.val (ze (ze z8)) slices_0] (λout=>[.row z8 out]):=⟨λout ho=>by
 delta zaq at ho;refine fn λ_ _=>?_;refine gnr z8 ?_;obtain ⟨t9,ht9,ho⟩:=bnd ho;refine glp ht9 [0,9,10] [] [] (λs g=>([(3,vI s.1),(11,vI s.2)],[])) (λb=>(.exit 0,λg=>([(3,vI b)],[]))) [] (λs4 g5 _ ho=>?_) λgb=>?_
 . refine gct ho (λhq6 ho=>?_) λhq6 ho=>?_
   . obtain ⟨x7,hx7,ho⟩:=bnd ho;refine gct ho (λhq8 ho=>?_) λhq8 ho=>?_
     . refine run 1 ?_;cases ho
     . exact we ho
   . exact lv [] [] ho
 . obtain ⟨ya,ha,ho⟩:=bnd ho;refine run 3 ?_;refine zhj (i141.ok _ ha) (.r (zcD zdI (zcD zgs (zcD zdI (zcD zdI zhi)))) .n) rfl (.n rfl) rfl rfl rfl .f (.c (.o .nilr) (.c (.o (.t rfl)) .n)) ?_;intro va;show zr ..;obtain ⟨ta,hc,ho⟩:=bnd ho;refine glp hc [25,26] [] [0] (λs g=>([(6,.raw (gh g 0)),(27,vI s.2)],[(gh g 0,.row z8 s.1)])) (λb=>(.exit 2,λg=>([(6,.raw (gh g 0))],[(gh g 0,.row z8 b)]))) [va] (λsa ga _ ho=>?_) λgc=>?_
   . refine gct ho (λhd ho=>?_) λhd ho=>?_
     . obtain ⟨xa,he,xb,hf,ho⟩:=zge ho;refine gap λvb=>?_;exact lv [vb] [0] ho
     . exact lv [gh ga 0] [0] ho
   . exact we ho⟩
theorem zbM {c e f d out} (ho:zJ c e f d=Ob out) (a:zb):zh1 ktab 168 [.raw a,.val (zi .i64) e,.val (zi .i64) f,.val (rFn ktab (Trip×Trip) Int (λx=>[.val z8 x.1,.val z8 x.2]) (λy=>[.val (zi .i64) y])) d] [(a,.row z8 c)] [] (λγ=>[(a,.row z8 out)]):=by
 refine zeT (F:=Tryz.f168) Om Om Om (λC=>?_);delta zJ at ho;obtain ⟨ta,ha,ho⟩:=bnd ho;refine glp ha [0,1,2,3] [] [0] (λs g=>([(8,vI s.1)],[(a,.row z8 s.2)])) (λb=>(.exit 0,λg=>([],[(a,.row z8 b)]))) [] (λsa ga _ ho=>?_) λgb=>?_
 . refine gct ho (λhc ho=>?_) λhc ho=>?_
   . obtain ⟨tb,hd,ho⟩:=bnd ho;refine glp hd [0,1,2,3,8] [] [0] (λs g=>([(9,vI s.1)],[(a,.row z8 s.2)])) (λb=>(.exit 2,λg=>([],[(a,.row z8 b)]))) [] (λsb gc _ ho=>?_) λgd=>?_
     . refine run 2 ?_;refine zax [8,13] Z ?_;refine wbr ho (λhe ho=>?_) λhe ho=>?_
       . obtain ⟨xa,hh,xb,hi,ya,hf,ho⟩:=zsK ho;refine gcv hf ?_;refine gct ho (λhg ho=>?_) λhg ho=>?_
         . refine run 3 ?_;refine zax [9,13] Z ?_;obtain ⟨xd,hj,xe,hk,ho⟩:=zge ho;refine run 14 ?_;obtain ⟨xf,hl,xg,hm,ho⟩:=zge ho;exact lv [] [0] ho
         . exact lv [] [0] ho
       . refine gk ?_;exact lv [] [0] ho
     . exact lv [] [0] ho
   . exact lv [] [0] ho
 . cases ho; exact id (za7 [0] [] (.inl rfl) .n rfl Oa)
theorem za9 {a e f h d out} (ho:zt a e f h d=Ob out) (c:zb):zh1 ktab 219 [.raw c,.val (zi .i64) e,.val (zi .i64) f,.val (zi .i64) h,.val (rFn ktab (Trip×Trip) Int (λx=>[.val z8 x.1,.val z8 x.2]) (λy=>[.val (zi .i64) y])) d] [(c,.row z8 a)] [] (λγ=>[(c,.row z8 out)]):=by
 refine zeT (F:=Tryz.f219) Om Om Om (λC=>?_);delta zt at ho;obtain ⟨ta,ha,ho⟩:=bnd ho;refine glp ha [0,1,2,3] [] [0] (λs g=>([(10,vI s.1)],[(c,.row z8 s.2)])) (λb=>(.exit 0,λg=>([],[(c,.row z8 b)]))) [] (λsa ga _ ho=>?_) λgb=>?_
 . refine gct ho (λhc ho=>?_) λhc ho=>?_
   . refine run 3 ?_;refine zax [13,19] Z ?_;obtain ⟨xa,hd,xb,he,ho⟩:=zge ho;refine run 20 ?_;obtain ⟨xd,hf,xe,hg,ho⟩:=zge ho;exact lv [] [0] ho
   . exact lv [] [0] ho
 . cases ho; exact id (za7 [0] [] (.inl rfl) .n rfl Oa)
theorem zcv {c e h f d out} (ho:z4 c e h f d=Ob out) (a:zb):zh1 ktab 191 [.raw a,.val (zi .i64) e,.val (zi .i64) h,.val (zi .i64) f,.val (rFn ktab (Trip×Trip) Int (λx=>[.val z8 x.1,.val z8 x.2]) (λy=>[.val (zi .i64) y])) d] [(a,.row z8 c)] [] (λγ=>[(a,.row z8 out)]):=by
 refine zeT (F:=Tryz.f191) Om Om Om (λC=>?_);delta z4 at ho;obtain ⟨ta,ha,ho⟩:=bnd ho;refine glp ha [0,2,4] [] [0] (λs g=>([(10,vI s.1),(11,vI s.2.1)],[(a,.row z8 s.2.2)])) (λb=>(.exit 0,λg=>([(10,vI b.1)],[(a,.row z8 b.2)]))) [] (λsa ga _ ho=>?_) λgb=>?_
 . refine gct ho (λhc ho=>?_) λhc ho=>?_
   . refine gct ho (λhd ho=>?_) λhd ho=>?_
     . obtain ⟨ya,he,ho⟩:=bnd ho;refine gcm [0] [] (za9 he a) ?_;intro gc;show zr ..;exact lv [] [0] ho
     . obtain ⟨yb,hf,ho⟩:=bnd ho;refine gcm [0] [] (za9 hf a) ?_;intro gd;show zr ..;exact lv [] [0] ho
   . exact lv [] [0] ho
 . obtain ⟨yc,hg,ho⟩:=bnd ho;refine gcm [0] [] (za9 hg a) ?_;intro ge;show zr ..;cases ho; exact zfp (za7 [0] [] (.inl rfl) .n rfl Oa)
end Go.Ai.TabYtfamdelkpempgaaGreat