/- Written by program: walks through functions. -/
import Derived.Test.YtfamdelkpempgaaGreatW11
set_option linter.unusedSimpArgs false
set_option linter.unusedVariables false
set_option linter.unusedSectionVars false
namespace Go.Ai.TabYtfamdelkpempgaaGreat
open Go Go.Ai Go.Ai.Sx Go.Proofs
attribute [local irreducible] zr
set_option maxRecDepth 100000
set_option maxHeartbeats 4000000
instance i127 {b a high_2}:FI ktab 127 (zah b a high_2) [vI b,vI a,vI high_2] (λout=>[wB out]):=⟨λout ho=>by
 delta zah at ho;refine fn λ_ _=>?_;obtain ⟨c4,hc4,ho⟩:=bnd ho;refine run 5 ?_;refine gcx c4 [] [] (λt=>(.normal,λ_=>([(6,vB t)],[]))) ?_ λ_=>?_
 . exact we hc4
 . exact rv ho⟩
instance i128 {s_0}:FI ktab 128 (zbC s_0) [.val zcP s_0] (λout=>[wB out]):=⟨λout ho=>by
 delta zbC at ho;refine fn λ_ _=>?_;obtain ⟨c4,hc4,ho⟩:=bnd ho;refine run 6 ?_;refine gcx c4 [] [] (λt=>(.normal,λ_=>([(2,vB t)],[]))) ?_ λ_=>?_
 . exact we hc4
 . exact rv ho⟩
instance i129 {k_0}:FI ktab 129 (zaP k_0) [vI k_0] (λout=>[wI out]):=⟨λout ho=>by
 delta zaP at ho;refine fn λ_ _=>?_;refine gct ho (λhq1 ho=>?_) λhq1 ho=>?_
 . exact we ho
 . refine gct ho (λhq2 ho=>?_) λhq2 ho=>?_
   . exact we ho
   . refine gct ho (λhq3 ho=>?_) λhq3 ho=>?_
     . exact we ho
     . refine gct ho (λhq4 ho=>?_) λhq4 ho=>?_
       . refine gct ho (λhq5 ho=>?_) λhq5 ho=>?_
         . exact we ho
         . exact Bool.noConfusion (hq4.symm.trans hq5)
       . refine gct ho (λhq6 ho=>?_) λhq6 ho=>?_
         . refine gct ho (λhq7 ho=>?_) λhq7 ho=>?_
           . exact we ho
           . exact Bool.noConfusion (hq6.symm.trans hq7)
         . exact we ho⟩
instance i130 {a rail_1}:FI ktab 130 (zdt a rail_1) [.val zbI a,vI rail_1] (λout=>[.row zcP out]):=⟨λout ho=>by
 delta zdt at ho;refine fn λ_ _=>?_;refine gnr zcP ?_;obtain ⟨x1,hx1,ho⟩:=bnd ho;refine gal λb2=>?_;refine gfz 1 zdO x1 0 [5] ?_;obtain ⟨x3,hx3,ho⟩:=bnd ho;refine run 10 ?_;refine zzC (R:=zcP) is' iy' (.n rfl) rfl rfl (.c (.t rfl) .n) rfl Oa ?_;intro v4;obtain ⟨x5,hx5,ho⟩:=bnd ho;refine gap λv6=>?_;obtain ⟨x7,hx7,x8,hx8,ho⟩:=zge ho;refine gap λv9=>?_;exact we ho⟩
instance i166 {n_0}:FI ktab 166 (ze8 n_0) [vI n_0] (λout=>[wI out]):=⟨λout ho=>by
 delta ze8 at ho;refine fn λ_ _=>?_;obtain ⟨t9,ht9,ho⟩:=bnd ho;refine glp ht9 [0] [] [] (λs g=>([(3,vI s.1),(4,vI s.2)],[])) (λb=>(.exit 0,λg=>([(3,vI b)],[]))) [] (λs4 g5 _ ho=>?_) λga=>?_
 . exact we ho
 . exact we ho⟩
instance i131 {a b_1}:FI ktab 131 (zdu a b_1) [.val zcP a,.val zcP b_1] (λout=>[wI out]):=fw
instance i132 {a e_1}:FI ktab 132 (zfK a e_1) [.val zbI a,.val zZ e_1] (λout=>[wI out]):=fw
instance i75 {p_0}:FI ktab 75 (zcE p_0) [.val zbI p_0] (λout=>[wB out]):=⟨λout ho=>by
 delta zcE at ho;refine fn λ_ _=>?_;obtain ⟨c4,hc4,ho⟩:=bnd ho;refine run 7 ?_;refine gcx c4 [1] [] (λt=>(.normal,λ_=>([(27,vB t)],[]))) ?_ λ_=>?_
 . exact we hc4
 . refine gct ho (λhq8 ho=>?_) λhq8 ho=>?_
   . exact we ho
   . obtain ⟨ta,ha,ho⟩:=bnd ho;refine gl2 ha ho [1] [] [] (λs g=>([(3,vI s)],[])) (λb=>(.exit 0,λg=>([],[]))) (λb=>(.ret,λg=>([(2,vB b)],[]))) [] (λsb gl _ ho=>?_) (λba ho gd=>?_) λbb ho gd=>?_
     . refine gct ho (λhc ho=>?_) λhc ho=>?_
       . obtain ⟨xa,hL,ho⟩:=bnd ho;refine gal λbc=>?_;refine gfz 1 zbZ xa 0 [4] ?_;refine wbr ho (λhd ho=>?_) λhd ho=>?_
         . refine gk ?_;refine gcl ho λyb hM ho=>?_;refine gcl ho λyc hN ho=>?_;refine wbr ho (λhe ho=>?_) λhe ho=>?_
           . refine gk ?_;exact we ho
           . refine gcl ho λyd hO ho=>?_;refine wbr ho (λhf ho=>?_) λhf ho=>?_
             . refine gk ?_;exact we ho
             . refine gcl ho λye hP ho=>?_;refine wbr ho (λhg ho=>?_) λhg ho=>?_
               . refine gk ?_;exact we ho
               . refine run 3 ?_;exact we ho
         . refine gct ho (λhh ho=>?_) λhh ho=>?_
           . refine gcl ho λyf hQ ho=>?_;refine gcl ho λyg hR ho=>?_;refine wbr ho (λhi ho=>?_) λhi ho=>?_
             . refine gk ?_;exact we ho
             . refine gcl ho λyh hS ho=>?_;refine wbr ho (λhj ho=>?_) λhj ho=>?_
               . refine gk ?_;exact we ho
               . refine gcl ho λyi hT ho=>?_;refine wbr ho (λhk ho=>?_) λhk ho=>?_
                 . refine gk ?_;exact we ho
                 . exact we ho
           . refine gcl ho λyj hU ho=>?_;refine wbr ho (λhl ho=>?_) λhl ho=>?_
             . refine gk ?_;exact we ho
             . refine gcl ho λyk hV ho=>?_;refine wbr ho (λhm ho=>?_) λhm ho=>?_
               . refine gk ?_;exact we ho
               . refine gcl ho λyl hW ho=>?_;refine wbr ho (λhn ho=>?_) λhn ho=>?_
                 . refine gk ?_;exact we ho
                 . exact we ho
       . exact lv [] [] ho
     . obtain ⟨tb,hp,ho⟩:=bnd ho;refine gl2 hp ho [1] [] [] (λs g=>([(6,vI s)],[])) (λb=>(.exit 2,λg=>([],[]))) (λb=>(.ret,λg=>([(2,vB b)],[]))) [] (λsc gm _ ho=>?_) (λbd ho ge=>?_) λbe ho ge=>?_
       . refine gct ho (λhr ho=>?_) λhr ho=>?_
         . obtain ⟨xb,hX,ho⟩:=bnd ho;refine gal λbf=>?_;refine gfz 1 zdO xb 0 [7] ?_;refine gcl ho λym hY ho=>?_;refine wbr ho (λhs ho=>?_) λhs ho=>?_
           . refine gk ?_;exact we ho
           . refine gcl ho λyn hZ ho=>?_;refine wbr ho (λht ho=>?_) λht ho=>?_
             . refine gk ?_;exact we ho
             . refine wbr ho (λhu ho=>?_) λhu ho=>?_
               . refine gk ?_;exact we ho
               . refine gcl ho λyo haa ho=>?_;refine wbr ho (λhv ho=>?_) λhv ho=>?_
                 . refine gk ?_;exact we ho
                 . refine gcl ho λyp hab ho=>?_;refine gct ho (λhw ho=>?_) λhw ho=>?_
                   . exact we ho
                   . obtain ⟨tc,hy,ho⟩:=bnd ho;refine gl2 hy ho [1,6,7,98,99,100,101,102,103,104,105,108,109,110,111,114,115,116,117,120,121,122,123] [] [] (λs g=>([(8,vI s)],[])) (λb=>(.exit 4,λg=>([],[]))) (λb=>(.ret,λg=>([(2,vB b)],[]))) [] (λsd gn _ ho=>?_) (λbg ho gf=>?_) λbh ho gf=>?_
                     . exact we ho
                     . refine gcl ho λya hac ho=>?_;intro va;show zr ..;obtain ⟨td,hz,ho⟩:=bnd ho;refine gl2 hz ho [1,6,9,98,99,100,101,102,103,104,105,108,109,110,111,114,115,116,117,120,121,122,123] [] [0] (λs g=>([(10,vI s)],[(va,.row zcP ya)])) (λb=>(.exit 6,λg=>([],[]))) (λb=>(.ret,λg=>([(2,vB b)],[]))) [] (λse gp _ ho=>?_) (λbi ho gg=>?_) λbj ho gg=>?_
                       . refine gct ho (λhA ho=>?_) λhA ho=>?_
                         . refine run 4 ?_;refine zax [4,8] Z ?_;obtain ⟨xe,had,xf,hae,ho⟩:=zge ho;refine gcl ho λyq haf ho=>?_;refine gcl ho λyr hag ho=>?_;refine gct ho (λhB ho=>?_) λhB ho=>?_
                           . exact we ho
                           . exact lv [] [0] ho
                         . exact lv [] [] ho
                       . exact we ho
                       . cases ho; exact id (lf [] [])
                     . cases ho; exact id (lf [] [])
         . exact lv [] [] ho
       . refine gnr zZ ?_;obtain ⟨te,hC,ho⟩:=bnd ho;refine gl2 hC ho [1] [] [0] (λs g=>([(11,.raw (gh g 0)),(12,vI s.2)],[(gh g 0,.row zZ s.1)])) (λb=>(.exit 8,λg=>([(11,.raw (gh g 0))],[(gh g 0,.row zZ b)]))) (λb=>(.ret,λg=>([(2,vB b)],[]))) [.nsz] (λsf gb _ ho=>?_) (λbk ho gi=>?_) λbl ho gi=>?_
         . refine gct ho (λhD ho=>?_) λhD ho=>?_
           . obtain ⟨tf,hE,ho⟩:=bnd ho;refine gl2 hE ho [1,12] [] [0] (λs g=>([(11,.raw (gh g 0)),(13,vI s.2)],[(gh g 0,.row zZ s.1)])) (λb=>(.exit 10,λg=>([(11,.raw (gh g 0))],[(gh g 0,.row zZ b)]))) (λb=>(.ret,λg=>([(2,vB b)],[]))) [gh gb 0] (λsa ga _ ho=>?_) (λbm ho gc=>?_) λbn ho gc=>?_
             . obtain ⟨xg,hah,ho⟩:=bnd ho;refine gct ho (λhF ho=>?_) λhF ho=>?_
               . obtain ⟨xh,hai,xd,haj,ho⟩:=zge ho;refine gal λbo=>?_;refine gfz 1 zZ xd 0 [14] ?_;refine gcl ho λys hak ho=>?_;refine wbr ho (λhG ho=>?_) λhG ho=>?_
                 . refine gk ?_;exact we ho
                 . refine gcl ho λyt hal ho=>?_;refine gct ho (λhH ho=>?_) λhH ho=>?_
                   . exact we ho
                   . obtain ⟨tg,hI,ho⟩:=bnd ho;refine gl2 hI ho [1,11,12,13,14,196,197,198,199,200] [] [0] (λs g=>([(15,vI s)],[(gh ga 0,.row zZ sa.1)])) (λb=>(.exit 12,λg=>([],[(gh ga 0,.row zZ sa.1)]))) (λb=>(.ret,λg=>([(2,vB b)],[]))) [] (λsg gq _ ho=>?_) (λbp ho gj=>?_) λbq ho gj=>?_
                     . refine gct ho (λhJ ho=>?_) λhJ ho=>?_
                       . refine run 4 ?_;refine zax [3] Z ?_;obtain ⟨xi,ham,ho⟩:=bnd ho;refine gct ho (λhK ho=>?_) λhK ho=>?_
                         . exact we ho
                         . exact lv [] [0] ho
                       . exact lv [] [0] ho
                     . obtain ⟨xj,han,ho⟩:=bnd ho;refine gap λvb=>?_;exact lv [vb] [0] ho
                     . cases ho; exact id (lf [] [])
               . exact lv [gh ga 0] [0] ho
             . exact lv [gh gc 0] [0] ho
             . cases ho; exact id (lf [] [])
           . exact lv [gh gb 0] [0] ho
         . exact we ho
         . exact rv ho
       . exact rv ho
     . exact rv ho⟩
instance i76 {a rail_1}:FI ktab 76 (zaM a rail_1) [.val zbI a,vI rail_1] (λout=>[wI out]):=⟨λout ho=>by
 delta zaM at ho;refine fn λ_ _=>?_;refine gcl ho λy1 hy1 ho=>?_;intro v2;show zr ..;obtain ⟨ta,ha,ho⟩:=bnd ho;refine glp ha [5] [] [0] (λs g=>([(6,vI s.1),(7,vI s.2)],[(v2,.row zcP y1)])) (λb=>(.exit 0,λg=>([(6,vI b)],[]))) [] (λsa ga _ ho=>?_) λgb=>?_
 . refine gct ho (λhc ho=>?_) λhc ho=>?_
   . refine run 3 ?_;refine zax [5,9] Z ?_;obtain ⟨xa,hd,xb,he,ho⟩:=zge ho;refine gcl ho λya hf ho=>?_;exact lv [] [0] ho
   . exact lv [] [] ho
 . exact we ho⟩
instance i71 {b a high_2}:FI ktab 71 (zb8 b a high_2) [vI b,vI a,vI high_2] (λout=>[wB out]):=⟨λout ho=>by
 delta zb8 at ho;refine fn λ_ _=>?_;obtain ⟨c4,hc4,ho⟩:=bnd ho;refine run 5 ?_;refine gcx c4 [] [] (λt=>(.normal,λ_=>([(6,vB t)],[]))) ?_ λ_=>?_
 . exact we hc4
 . exact rv ho⟩
instance i72 {a home_1}:FI ktab 72 (ze2 a home_1) [.val zdP a,vB home_1] (λout=>[.val zb0 out]):=fw
instance i182 {a m_1}:FI ktab 182 (ze9 a m_1) [.val zbI a,.val zT m_1] (λout=>[wB out]):=fw
instance i201 {m_0}:FI ktab 201 (zfU m_0) [.val zT m_0] (λout=>[.val zZ out]):=fw
instance i202 {a e_1}:FI ktab 202 (zdJ a e_1) [.val zbZ a,.val zZ e_1] (λout=>[wI out]):=⟨λout ho=>by
 delta zdJ at ho;refine fn λ_ _=>?_;obtain ⟨ta,ha,ho⟩:=bnd ho;refine gl2 ha ho [2,3] [] [] (λs g=>([(5,vI s)],[])) (λb=>(.exit 0,λg=>([],[]))) (λb=>(.ret,λg=>([(4,vI b)],[]))) [] (λs5 g6 _ ho=>?_) (λba ho ga=>?_) λbb ho ga=>?_
 . exact we ho
 . exact we ho
 . exact rv ho⟩
instance i203 {m_0}:FI ktab 203 (zhP m_0) [.val zT m_0] (λout=>[.val zZ out]):=fw
instance i204 {b a b_2}:FI ktab 204 (zfa b a b_2) [.val zbZ b,vI a,vI b_2] (λout=>[wB out]):=⟨λout ho=>by
 delta zfa at ho;refine fn λ_ _=>?_;refine gct ho (λhq1 ho=>?_) λhq1 ho=>?_
 . exact we ho
 . refine gct ho (λhq2 ho=>?_) λhq2 ho=>?_
   . obtain ⟨c5,hc5,ho⟩:=bnd ho;refine run 1 ?_;refine gcx c5 [] [] (λt=>(.normal,λ_=>([(6,vB t)],[]))) ?_ λ_=>?_
     . exact we hc5
     . exact rv ho
   . refine gct ho (λhq8 ho=>?_) λhq8 ho=>?_
     . obtain ⟨ca,ha,ho⟩:=bnd ho;refine run 1 ?_;refine gcx ca [] [] (λt=>(.normal,λ_=>([(6,vB t)],[]))) ?_ λ_=>?_
       . exact we ha
       . exact rv ho
     . refine gct ho (λhc ho=>?_) λhc ho=>?_
       . obtain ⟨cc,hd,ho⟩:=bnd ho;refine run 1 ?_;refine gcx cc [] [] (λt=>(.normal,λ_=>([(6,vB t)],[]))) ?_ λ_=>?_
         . exact we hd
         . exact rv ho
       . refine gct ho (λhe ho=>?_) λhe ho=>?_
         . obtain ⟨cd,hf,ho⟩:=bnd ho;refine run 1 ?_;refine gcx cd [] [] (λt=>(.normal,λ_=>([(6,vB t)],[]))) ?_ λ_=>?_
           . exact we hf
           . exact rv ho
         . exact we ho⟩
instance i183 {a b n_2}:FI ktab 183 (zcX a b n_2) [.val zbI a,.val zT b,.val zT n_2] (λout=>[wB out]):=⟨λout ho=>by
 delta zcX at ho;refine fn λ_ _=>?_;refine gcl ho λy3 hy3 ho=>?_;refine gcl ho λy4 hy4 ho=>?_;obtain ⟨x5,hx5,ho⟩:=bnd ho;refine gal λb6=>?_;refine gfz 1 zbZ x5 0 [8] ?_;refine gcl ho λya hc ho=>?_;refine gcl ho λyb hd ho=>?_;refine gcl ho λyc he ho=>?_;refine gcl ho λyd hf ho=>?_;obtain ⟨ca,ha,ho⟩:=bnd ho;refine run 4 ?_;refine gcx ca [] [] (λt=>(.normal,λ_=>([(6,vB t)],[]))) ?_ λ_=>?_
 . exact we ha
 . exact rv ho⟩
instance i155 {a l_1}:FI ktab 155 (zeV a l_1) [.val zbI a,.val (ze zT) l_1] (λout=>[wB out]):=⟨λout ho=>by
 delta zeV at ho;refine fn λ_ _=>?_;obtain ⟨ta,ha,ho⟩:=bnd ho;refine gl2 ha ho [1,2] [] [] (λs g=>([(5,vI s)],[])) (λb=>(.exit 0,λg=>([],[]))) (λb=>(.ret,λg=>([(4,vB b)],[]))) [] (λsa gb _ ho=>?_) (λba ho ga=>?_) λbb ho ga=>?_
 . refine gct ho (λhc ho=>?_) λhc ho=>?_
   . obtain ⟨xa,hf,ho⟩:=bnd ho;refine gcl ho λya hg ho=>?_;refine wbr ho (λhd ho=>?_) λhd ho=>?_
     . refine gk ?_;exact we ho
     . refine wbr ho (λhe ho=>?_) λhe ho=>?_
       . refine run 5 ?_;exact we ho
       . refine gk ?_;exact we ho
   . exact lv [] [] ho
 . exact we ho
 . exact rv ho⟩
instance i156 {a l_1}:FI ktab 156 (zcm a l_1) [.val zbI a,.val (ze zT) l_1] (λout=>[wI out]):=⟨λout ho=>by
 delta zcm at ho;refine fn λ_ _=>?_;obtain ⟨ta,ha,ho⟩:=bnd ho;refine glp ha [1,2] [] [] (λs g=>([(5,vI s.1),(6,vI s.2)],[])) (λb=>(.exit 0,λg=>([(5,vI b)],[]))) [] (λs6 g7 _ ho=>?_) λga=>?_
 . exact we ho
 . exact we ho⟩
instance i206 {b a high_2}:FI ktab 206 (zbx b a high_2) [vI b,vI a,vI high_2] (λout=>[wB out]):=⟨λout ho=>by
 delta zbx at ho;refine fn λ_ _=>?_;obtain ⟨c4,hc4,ho⟩:=bnd ho;refine run 5 ?_;refine gcx c4 [] [] (λt=>(.normal,λ_=>([(6,vB t)],[]))) ?_ λ_=>?_
 . exact we hc4
 . exact rv ho⟩
instance i205 {t_0}:FI ktab 205 (zev t_0) [.val zb1 t_0] (λout=>[wB out]):=⟨λout ho=>by
 delta zev at ho;refine fn λ_ _=>?_;obtain ⟨ca,ha,ho⟩:=bnd ho;refine run 7 ?_;refine gcx ca [1] [] (λt=>(.normal,λ_=>([(62,vB t)],[]))) ?_ λ_=>?_
 . exact we ha
 . refine gct ho (λhc ho=>?_) λhc ho=>?_
   . exact we ho
   . obtain ⟨ta,hd,ho⟩:=bnd ho;refine gl2 hd ho [1] [] [] (λs g=>([(3,vI s)],[])) (λb=>(.exit 0,λg=>([],[]))) (λb=>(.ret,λg=>([(2,vB b)],[]))) [] (λsa gb _ ho=>?_) (λba ho ga=>?_) λbb ho ga=>?_
     . exact we ho
     . exact we ho
     . exact rv ho⟩
instance i184 {d c e a stops_4}:FI ktab 184 (zew d c e a stops_4) [.val zbI d,.val (ze zT) c,.val zb1 e,vI a,.val (ze (zi .i64)) stops_4] (λout=>[wB out]):=⟨λout ho=>by
 delta zew at ho;refine fn λ_ _=>?_;obtain ⟨ca,ha,ho⟩:=bnd ho;refine run 8 ?_;refine gcx ca [1,4,5] [] (λt=>(.normal,λ_=>([(48,vB t)],[]))) ?_ λ_=>?_
 . exact we ha
 . refine gct ho (λhc ho=>?_) λhc ho=>?_
   . exact we ho
   . obtain ⟨ta,hd,ho⟩:=bnd ho;refine gl2 hd ho [1,4,5] [] [] (λs g=>([(11,vI s)],[])) (λb=>(.exit 0,λg=>([],[]))) (λb=>(.ret,λg=>([(10,vB b)],[]))) [] (λsa gb _ ho=>?_) (λba ho ga=>?_) λbb ho ga=>?_
     . exact we ho
     . exact we ho
     . exact rv ho⟩
instance i207 {a x_1}:FI ktab 207 (zU a x_1) [.val zb1 a,.val zx x_1] (λout=>[wI out]):=fw
instance i209 {a place_1}:FI ktab 209 (zbe a place_1) [.val zam a,vI place_1] (λout=>[wI out]):=⟨λout ho=>by
 delta zbe at ho;refine fn λ_ _=>?_;obtain ⟨ta,ha,ho⟩:=bnd ho;refine gl2 ha ho [1,2] [] [] (λs g=>([(5,vI s.1),(6,vI s.2)],[])) (λb=>(.exit 0,λg=>([],[]))) (λb=>(.ret,λg=>([(4,vI b)],[]))) [] (λsa gb _ ho=>?_) (λba ho ga=>?_) λbb ho ga=>?_
 . refine gct ho (λhc ho=>?_) λhc ho=>?_
   . obtain ⟨xa,he,ho⟩:=bnd ho;refine gcl ho λya hf ho=>?_;refine wbr ho (λhd ho=>?_) λhd ho=>?_
     . refine gk ?_;exact we ho
     . refine run 9 ?_;exact we ho
   . exact lv [] [] ho
 . exact we ho
 . exact rv ho⟩
instance i232 {d c a b state_4}:FI ktab 232 (zdV d c a b state_4) [.val zb1 d,vI c,vI a,vI b,vI state_4] (λout=>[wI out.1,wI out.2.1,wI out.2.2.1,wI out.d3]):=fw
instance i211 {e b a d state_4}:FI ktab 211 (zaQ e b a d state_4) [.val zb1 e,.val zx b,vI a,vI d,vI state_4] (λout=>[.val zx out.1,.val zC out.2.1,wB out.2.2]):=⟨λout ho=>by
 delta zaQ at ho;refine fn λ_ _=>?_;refine gal λb1=>?_;refine gal λb2=>?_;obtain ⟨x5,hx5,ho⟩:=bnd ho;refine gcl ho λy6 hy6 ho=>?_;refine gal λb7=>?_;obtain ⟨ca,ha,ho⟩:=bnd ho;refine run 3 ?_;refine gcx ca [5,6,10,11,13,14,15,16,17,18,19] [0,1,2] (λt=>(.normal,λ_=>([(57,vB t)],[]))) ?_ λ_=>?_
 . have ho:=ha;refine wbr ho (λhc ho=>?_) λhc ho=>?_
   . exact lv [] [0,1,2] ho
   . refine wbr ho (λhd ho=>?_) λhd ho=>?_
     . exact lv [] [0,1,2] ho
     . exact lv [] [0,1,2] ho
 . refine gct ho (λhe ho=>?_) λhe ho=>?_
   . refine run 14 ?_;refine zax [6,1000010,1000011,1000019] Z ?_ (hdi:=rdists rfl (rowns rfl) (.c (.o (j:=2) rfl rfl) (.c (.o (j:=1) rfl rfl) (.c (.o (j:=0) rfl rfl) .n))) rfl);refine glb ((0,0,0,0,0,w64 (b.1*b.1),()):zac) 0 ?_;exact we ho
   . refine run 25 ?_;refine zax [6,1000010,1000011,1000019] Z ?_ (hdi:=rdists rfl (rowns rfl) (.c (.o (j:=2) rfl rfl) (.c (.o (j:=1) rfl rfl) (.c (.o (j:=0) rfl rfl) .n))) rfl);refine glb (((w64 (w64 (200*y6.1)*w64 (b.1+w64 (100*w64 (w64 (w64 (y6.1-y6.2.1)-y6.2.2.1)-y6.d3)))),w64 (w64 (200*y6.2.1)*w64 (b.1+w64 (100*w64 (w64 (w64 (y6.1-y6.2.1)-y6.2.2.1)-y6.d3)))),w64 (w64 (200*y6.2.2.1)*w64 (b.1+w64 (100*w64 (w64 (w64 (y6.1-y6.2.1)-y6.2.2.1)-y6.d3)))),w64 (w64 (200*y6.d3)*w64 (b.1+w64 (100*w64 (w64 (w64 (y6.1-y6.2.1)-y6.2.2.1)-y6.d3)))),w64 (w64 (10000*w64 (w64 (w64 (y6.1-y6.2.1)-y6.2.2.1)-y6.d3))*w64 (w64 (w64 (y6.1-y6.2.1)-y6.2.2.1)-y6.d3)),0,()):zac):zac) 0 ?_;exact we ho⟩
instance i248 {c d a length_3}:FI ktab 248 (zdW c d a length_3) [.val zbI c,.val (ze zT) d,vI a,vI length_3] (λout=>[.row ze7 out]):=⟨λout ho=>by
 delta zdW at ho;refine fn λ_ _=>?_;refine gnr ze7 ?_;refine gnr ze7 ?_;obtain ⟨ta,ha,ho⟩:=bnd ho;refine glp ha [1,2,3,4] [] [0] (λs g=>([(9,.raw (gh g 0)),(10,vI s.2.1),(11,vI s.2.2)],[(gh g 0,.row ze7 s.1)])) (λb=>(.exit 0,λg=>([(9,.raw (gh g 0))],[(gh g 0,.row ze7 b)]))) [.nsz] (λsa ga _ ho=>?_) λgb=>?_
 . refine gct ho (λhc ho=>?_) λhc ho=>?_
   . obtain ⟨xa,hf,ho⟩:=bnd ho;refine gcl ho λya hg ho=>?_;refine gct ho (λhd ho=>?_) λhd ho=>?_
     . exact lv [gh ga 0] [0] ho
     . obtain ⟨xb,hh,ho⟩:=bnd ho;refine gct ho (λhe ho=>?_) λhe ho=>?_
       . obtain ⟨xd,hi,xe,hj,ho⟩:=zge ho;refine gap λva=>?_;exact lv [va] [0] ho
       . obtain ⟨xf,hk,xg,hl,ho⟩:=zge ho;refine gap λvb=>?_;exact lv [vb] [0] ho
   . exact lv [gh ga 0] [0] ho
 . exact we ho⟩
instance i245 {c a d place_3}:FI ktab 245 (zdK c a d place_3) [.val zbI c,.val (ze zT) a,.val zb1 d,vI place_3] (λout=>[wI out]):=⟨λout ho=>by
 delta zdK at ho;refine fn λ_ _=>?_;refine gcl ho λy1 hy1 ho=>?_;intro v2;show zr ..;obtain ⟨ta,ha,ho⟩:=bnd ho;refine glp ha [4,9] [] [0] (λs g=>([(10,vI s.1),(11,vI s.2)],[(v2,.row ze7 y1)])) (λb=>(.exit 0,λg=>([(10,vI b)],[]))) [] (λs8 g9 _ ho=>?_) λga=>?_
 . refine gct ho (λhc ho=>?_) λhc ho=>?_
   . refine run 3 ?_;refine zax [7] Z ?_;obtain ⟨xa,hd,ho⟩:=bnd ho;refine run 7 ?_;refine zmv 0 (λ_ h=>by cases h<;>rfl) iu' zlQ (zfq hd).2.2.2 (.n rfl) rfl rfl (.t rfl) rfl ?_;obtain ⟨xb,he,ho⟩:=bnd ho;exact lv [] [0] ho
   . exact lv [] [] ho
 . exact we ho⟩
instance i231 {a x_1}:FI ktab 231 (zef a x_1) [.val zam a,.val zx x_1] (λout=>[wB out]):=⟨λout ho=>by
 delta zef at ho;refine fn λ_ _=>?_;refine run 3 ?_;refine xbo λb1=>?_;obtain ⟨ta,ha,ho⟩:=bnd ho;refine glp ha [2,3] [] [0] (λs g=>([(5,vI s.1)],[(.ptr b1 0,.box [vI s.2.1,vI s.2.2])])) (λb=>(.ret,λg=>([(4,vB b.1)],[]))) [] (λsa ga _ ho=>?_) λgb=>?_
 . refine run 4 ?_;refine zax [2,9,22] Z ?_;refine glb (sa.2.1,sa.2.2,()) 0 ?_;refine gcl ho λya hh ho=>?_;refine wbr ho (λhc ho=>?_) λhc ho=>?_
   . refine gk ?_;exact we ho
   . obtain ⟨xa,hi,ho⟩:=bnd ho;refine glb (sa.2.1,sa.2.2,()) 0 ?_;refine gcl ho λyb hj ho=>?_;refine gcl ho λyc hk ho=>?_;refine gct ho (λhd ho=>?_) λhd ho=>?_
     . exact we ho
     . refine gct ho (λhe ho=>?_) λhe ho=>?_
       . exact we ho
       . refine gct ho (λhf ho=>?_) λhf ho=>?_
         . exact we ho
         . refine run 6 ?_;refine zax [2,6] Z ?_;refine glb (sa.2.1,sa.2.2,()) 0 ?_;refine glb (sa.2.1,sa.2.2,()) 0 ?_;refine gcl ho λyd hl ho=>?_;refine gcl ho λye hm ho=>?_;refine gcl ho λyf hn ho=>?_;refine gct ho (λhg ho=>?_) λhg ho=>?_
           . exact we ho
           . exact lv [] [0] ho
 . exact rv ho⟩
instance i208 {a x_1}:FI ktab 208 (zcF a x_1) [.val zam a,.val zx x_1] (λout=>[wI out.1,wB out.2]):=⟨λout ho=>by
 delta zcF at ho;refine fn λ_ _=>?_;obtain ⟨ta,ha,ho⟩:=bnd ho;refine gl2 ha ho [2,3] [] [] (λs g=>([(6,vI s)],[])) (λb=>(.exit 0,λg=>([],[]))) (λb=>(.ret,λg=>([(4,vI b.1),(5,vB b.2)],[]))) [] (λsa gb _ ho=>?_) (λba ho ga=>?_) λbb ho ga=>?_
 . refine gct ho (λhc ho=>?_) λhc ho=>?_
   . refine gcl ho λyb he ho=>?_;refine gcl ho λyc hf ho=>?_;refine gcl ho λya hg ho=>?_;refine gal λbc=>?_;refine gal λbd=>?_;refine gfz 1 zx ya.1 1 [7] ?_;refine gfz 1 zC ya.2.1 0 [8] ?_;refine wbr ho (λhd ho=>?_) λhd ho=>?_
     . exact we ho
     . refine gk ?_;exact we ho
   . exact lv [] [] ho
 . exact we ho
 . exact rv ho⟩
instance i210 {d c a b state_4}:FI ktab 210 (zbV d c a b state_4) [.val zb1 d,.val zx c,vI a,vI b,vI state_4] (λout=>[wI out.1,wI out.2]):=⟨λout ho=>by
 delta zbV at ho;refine fn λ_ _=>?_;obtain ⟨x3,hx3,ho⟩:=bnd ho;refine gcl ho λy4 hy4 ho=>?_;refine gcl ho λy5 hy5 ho=>?_;refine gal λb6=>?_;refine gal λb7=>?_;refine gfz 1 zx y5.1 1 [16] ?_;refine gfz 1 zC y5.2.1 0 [17] ?_;exact we ho⟩
instance i212 {a b_1}:FI ktab 212 (zeW a b_1) [.val zC a,.val zC b_1] (λout=>[.val zC out]):=fw
end Go.Ai.TabYtfamdelkpempgaaGreat