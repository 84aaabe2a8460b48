/- Written by program: walks through functions. -/
import Derived.Test.YtppebpagcocogaaGreatT11
import Derived.Test.YtppebpagcocogaaGreatWalkServiceTripsP0C
import Derived.Test.YtppebpagcocogaaGreatWalkServiceTripsP1C
import Derived.Test.YtppebpagcocogaaGreatT21
import Derived.Test.YtppebpagcocogaaGreatT20
set_option linter.unusedSimpArgs false
set_option linter.unusedVariables false
set_option linter.unusedSectionVars false
namespace Go.Ai.TabYtppebpagcocogaaGreat
open Go Go.Ai Go.Ai.Sx Go.Proofs
attribute [local irreducible] zo
set_option maxRecDepth 100000
set_option maxHeartbeats 4000000
instance i51 {p_0 s_1 w_2 from_3 until_4}:FI ktab 51 (zee p_0 s_1 w_2 from_3 until_4) [.val zaZ p_0,.val zcb s_1,.val (zf zbs) w_2,vI from_3,vI until_4] (λout=>[.row zp out]):=⟨λout ho=>by
 delta zee at ho;refine fn λ_ _=>?_;refine gnr zp ?_;refine gnr zp ?_;obtain ⟨ta,ha,ho⟩:=bnd ho;refine glp ha [2,3,4,5,6] [] [0] (λs g=>([(11,.raw (gh g 0)),(12,vI s.2)],[((gh g 0),.row zp s.1)])) (λb=>(.exit 0,λg=>([(11,.raw (gh g 0))],[((gh g 0),.row zp b)]))) [.nilslice] (λsa ga _ ho=>?_) λgd=>?_
 . refine gct ho (λhc ho=>?_) λhc ho=>?_
   . obtain ⟨tb,hd,ho⟩:=bnd ho;refine glp hd [2,3,4,5,6,12] [] [0] (λs g=>([(11,.raw (gh g 0)),(13,vI s.2)],[((gh g 0),.row zp s.1)])) (λb=>(.exit 2,λg=>([(11,.raw (gh g 0))],[((gh g 0),.row zp b)]))) [(gh ga 0)] (λsb gb _ ho=>?_) λge=>?_
     . refine gct ho (λhe ho=>?_) λhe ho=>?_
       . obtain ⟨xa,hu,ho⟩:=bnd ho;refine gcl ho λya hv ho=>?_;obtain ⟨xb,hw,ho⟩:=bnd ho;refine gcl ho λyc hy ho=>?_;refine run 8 ?_;obtain ⟨xd,hz,ho⟩:=bnd ho;refine gcl ho λyd hA ho=>?_;refine gcl ho λye hB ho=>?_;obtain ⟨tc,hf,ho⟩:=bnd ho;refine glp hf [2,3,4,5,6,12,13,14,15,16,17,18] [] [0] (λs g=>([(11,.raw (gh g 0)),(19,vI s.2)],[((gh g 0),.row zp s.1)])) (λb=>(.exit 4,λg=>([(11,.raw (gh g 0))],[((gh g 0),.row zp b)]))) [(gh gb 0)] (λsc gc _ ho=>?_) λgf=>?_
         . refine gct ho (λhg ho=>?_) λhg ho=>?_
           . refine gcl ho λyb hC ho=>?_;refine gal λba=>?_;refine gfz 1 zp ((sa.2,(sb.2==1),yb,(w64 (ya+(w64 (sc.2*xa)))),()):Trip) 0 [20] ?_;refine gcl ho λyf hD ho=>?_;refine gct ho (λhh ho=>?_) λhh ho=>?_
             . obtain ⟨xe,hE,ho⟩:=bnd ho;refine gap λva=>?_;exact lv [va] [0] ho
             . exact lv [(gh gc 0)] [0] ho
           . exact lv [(gh gc 0)] [0] ho
         . exact lv [(gh gf 0)] [0] ho
       . exact lv [(gh gb 0)] [0] ho
     . exact lv [(gh ge 0)] [0] ho
   . exact lv [(gh ga 0)] [0] ho
 . refine gnr zp ?_;obtain ⟨td,hi,ho⟩:=bnd ho;refine glp hi [11] [] [1,0] (λs g=>([(21,.raw (gh g 0))],[((gh gd 0),.row zp ta),((gh g 0),.row zp s)])) (λb=>(.exit 6,λg=>([(21,.raw (gh g 0))],[((gh g 0),.row zp b)]))) [.nilslice] (λsd gg _ ho=>?_) λgi=>?_
   . refine gct ho (λhj ho=>?_) λhj ho=>?_
     . obtain ⟨te,hk,ho⟩:=bnd ho;refine glp hk [11,21] [0,1] [0,1] (λs g=>([(22,vI s.1),(23,vI s.2)],[])) (λb=>(.exit 8,λg=>([(22,vI b)],[]))) [] (λse gj _ ho=>?_) λgl=>?_
       . refine gct ho (λhl ho=>?_) λhl ho=>?_
         . refine run 4 ?_;refine zai [9,13] (by kernel_rfl) ?_;refine wbr ho (λhm ho=>?_) λhm ho=>?_
           . refine run 19 ?_;refine zai [8,12] (by kernel_rfl) ?_;refine wbr ho (λhn ho=>?_) λhn ho=>?_
             . refine gk ?_;exact lv [] [0,1] ho
             . obtain ⟨xf,hF,xg,hG,ho⟩:=zeh ho;refine gcl ho λyg hH ho=>?_;refine gct ho (λhp ho=>?_) λhp ho=>?_
               . exact lv [] [0,1] ho
               . exact lv [] [0,1] ho
           . obtain ⟨xh,hI,xi,hJ,ho⟩:=zeh ho;refine gcl ho λyh hK ho=>?_;refine run 4 ?_;refine zai [8,12] (by kernel_rfl) ?_;refine wbr ho (λhr ho=>?_) λhr ho=>?_
             . refine wbr ho (λhs ho=>?_) λhs ho=>?_
               . refine gk ?_;exact lv [] [0,1] ho
               . obtain ⟨xj,hL,xk,hM,ho⟩:=zeh ho;refine gcl ho λyi hN ho=>?_;refine gct ho (λht ho=>?_) λht ho=>?_
                 . exact lv [] [0,1] ho
                 . exact lv [] [0,1] ho
             . refine gk ?_;exact lv [] [0,1] ho
         . exact lv [] [0,1] ho
       . obtain ⟨xl,hO,xm,hP,ho⟩:=zeh ho;refine gap λvb=>?_;exact lv [vb] [1,0] ho
     . exact lv [(gh gg 0)] [1] ho
   . exact we ho⟩
instance i12 {p_0 s_1 w_2 from_3 until_4}:FI ktab 12 (zbX p_0 s_1 w_2 from_3 until_4) [.val zaZ p_0,.val zcb s_1,.val (zf zbs) w_2,vI from_3,vI until_4] (λout=>[wB out]):=⟨λout ho=>by
 delta zbX at ho;refine fn λ_ _=>?_;obtain ⟨c3,hc3,ho⟩:=bnd ho;refine run 8 ?_;refine gcx c3 [2,3,4,5,6] [] (λt=>(.normal,λ_=>([(21,vB t)],[]))) ?_ λ_=>?_
 . exact we hc3
 . refine gct ho (λhq6 ho=>?_) λhq6 ho=>?_
   . exact we ho
   . refine gcl ho λy8 hy8 ho=>?_;intro v9;show zo ..;obtain ⟨ca,ha,ho⟩:=bnd ho;refine run 8 ?_;refine gcx ca [2,3,4,5,6,11,12] [0] (λt=>(.normal,λ_=>([(54,vB t)],[]))) ?_ λ_=>?_
     . have ho:=ha;refine gcl ho λya hm ho=>?_;refine wbr ho (λhc ho=>?_) λhc ho=>?_
       . exact lv [] [0] ho
       . refine gcl ho λyb hn ho=>?_;refine wbr ho (λhd ho=>?_) λhd ho=>?_
         . exact lv [] [0] ho
         . refine wbr ho (λhe ho=>?_) λhe ho=>?_
           . exact lv [] [0] ho
           . refine wbr ho (λhf ho=>?_) λhf ho=>?_
             . exact lv [] [0] ho
             . exact lv [] [0] ho
     . refine gct ho (λhg ho=>?_) λhg ho=>?_
       . obtain ⟨cc,hh,ho⟩:=bnd ho;refine run 1 ?_;refine gcx cc [] [0] (λt=>(.normal,λ_=>([(10,vB t)],[]))) ?_ λ_=>?_
         . have ho:=hh;refine wbr ho (λhi ho=>?_) λhi ho=>?_
           . refine wbr ho (λhj ho=>?_) λhj ho=>?_
             . refine gcl ho λyc hp ho=>?_;exact lv [] [0] ho
             . exact lv [] [0] ho
           . exact lv [] [0] ho
         . exact rv ho
       . refine gct ho (λhk ho=>?_) λhk ho=>?_
         . exact we ho
         . refine wbr ho (λhl ho=>?_) λhl ho=>?_
           . refine gcl ho λyd hr ho=>?_;intro va;exact we ho
           . exact we ho⟩
end Go.Ai.TabYtppebpagcocogaaGreat