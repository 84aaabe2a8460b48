/- Written by program: walks through functions. -/
import Derived.Test.YtppebpagcocogaaGreatU11
import Derived.Test.YtppebpagcocogaaGreatU22
import Derived.Test.YtppebpagcocogaaGreatU21
import Derived.Test.YtppebpagcocogaaGreatU20
set_option linter.unusedSimpArgs false
set_option linter.unusedVariables false
set_option linter.unusedSectionVars false
namespace Go.Ai.TabYtppebpagcocogaaGreat
open Go Go.Ai Go.Ai.Sx Go.Proofs
attribute [local irreducible] zr
set_option maxRecDepth 100000
set_option maxHeartbeats 4000000
instance i33 {p_0 s_1 c_2}:FI ktab 33 (zeM p_0 s_1 c_2) [.val zaP p_0,.val zbM s_1,.val zk c_2] (λout=>[wI out]):=fw
instance i9 {headway_0}:FI ktab 9 (zbR headway_0) [vI headway_0] (λout=>[wB out]):=⟨λout ho=>by
 delta zbR at ho;refine fn λ_ _=>?_;obtain ⟨c4,hc4,ho⟩:=bnd ho;refine run 6 ?_;refine gcx c4 [0] [] (λt=>(.normal,λ_=>([(17,vB t)],[]))) ?_ λ_=>?_
 . exact we hc4
 . refine gct ho (λhq6 ho=>?_) λhq6 ho=>?_
   . exact we ho
   . refine gcl ho λy8 hy8 ho=>?_;refine gal λb9=>?_;refine gal λba=>?_;refine gfz 1 zaP y8.1 1 [3] ?_;refine gfz 1 zav y8.2 0 [4] ?_;refine gal λbb=>?_;refine gfz 1 zbM (([y8.2,y8.2,y8.2],[headway_0,headway_0,headway_0],[0,0,0],()):Service) 0 [6] ?_;refine gal λbc=>?_;refine glb (((2,false,2,2,true,0,0,0,()):Connection):Connection) 0 ?_;refine gcl ho λya hj ho=>?_;refine gct ho (λha ho=>?_) λha ho=>?_
     . exact we ho
     . refine glb ((2,false,2,2,true,0,0,(w64 (ya-1)),()):Connection) 0 ?_;refine gcl ho λyb hk ho=>?_;refine gct ho (λhc ho=>?_) λhc ho=>?_
       . obtain ⟨ca,hd,ho⟩:=bnd ho;refine run 4 ?_;refine gcx ca [] [0] (λt=>(.normal,λ_=>([(2,vB t)],[]))) ?_ λ_=>?_
         . have ho:=hd;refine wbr ho (λhe ho=>?_) λhe ho=>?_
           . refine wbr ho (λhf ho=>?_) λhf ho=>?_
             . refine gcl ho λyc hl ho=>?_;exact lv [] [0] ho
             . exact lv [] [0] ho
           . exact lv [] [0] ho
         . exact rv ho
       . obtain ⟨cc,hg,ho⟩:=bnd ho;refine run 2 ?_;refine gcx cc [] [0] (λt=>(.normal,λ_=>([(2,vB t)],[]))) ?_ λ_=>?_
         . have ho:=hg;refine wbr ho (λhh ho=>?_) λhh ho=>?_
           . refine wbr ho (λhi ho=>?_) λhi ho=>?_
             . refine gcl ho λyd hm ho=>?_;exact lv [] [0] ho
             . exact lv [] [0] ho
           . exact lv [] [0] ho
         . exact rv ho⟩
end Go.Ai.TabYtppebpagcocogaaGreat