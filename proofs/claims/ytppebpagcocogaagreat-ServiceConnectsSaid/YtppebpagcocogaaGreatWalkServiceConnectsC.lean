/- Written by program: walks through functions. -/
import Derived.Test.YtppebpagcocogaaGreatU11
import Derived.Test.YtppebpagcocogaaGreatAiNrC
import Derived.Test.YtppebpagcocogaaGreatU22
import Derived.Test.YtppebpagcocogaaGreatU17
import Derived.Test.YtppebpagcocogaaGreatU21
import Derived.Test.YtppebpagcocogaaGreatU20
set_option linter.unusedSimpArgs false
set_option linter.unusedVariables false
set_option linter.unusedSectionVars false
namespace Go.Ai.TabYtppebpagcocogaaGreat
open Go Go.Ai Go.Ai.Sx Go.Proofs
attribute [local irreducible] zr
set_option maxRecDepth 100000
set_option maxHeartbeats 4000000
instance i23 {a_0 b_1}:FI ktab 23 (zeK a_0 b_1) [.val (zb (zj .i64)) a_0,.val (zb (zj .i64)) b_1] (λout=>[wB out]):=⟨λout ho=>by
 delta zeK at ho;refine fn λ_ _=>?_;refine gct ho (λhq1 ho=>?_) λhq1 ho=>?_
 . exact we ho
 . obtain ⟨ta,ha,ho⟩:=bnd ho;refine gl2 ha ho [0,1] [] [] (λs g=>([(5,vI s)],[])) (λb=>(.exit 0,λg=>([],[]))) (λb=>(.ret,λg=>([(4,vB b)],[]))) [] (λs8 g9 _ ho=>?_) (λba ho ga=>?_) λbb ho ga=>?_
   . exact we ho
   . exact we ho
   . exact rv ho⟩
instance i32 {lines_0 c_1}:FI ktab 32 (zaO lines_0 c_1) [.val (zb zav) lines_0,.val zk c_1] (λout=>[wB out]):=⟨λout ho=>by
 delta zaO at ho;refine fn λ_ _=>?_;obtain ⟨c7,hc7,ho⟩:=bnd ho;refine run 7 ?_;refine gcx c7 [0,3] [] (λt=>(.normal,λ_=>([(33,vB t)],[]))) ?_ λ_=>?_
 . exact we hc7
 . refine gct ho (λha ho=>?_) λha ho=>?_
   . exact we ho
   . obtain ⟨ca,hc,ho⟩:=bnd ho;refine run 2 ?_;refine gcx ca [] [] (λt=>(.normal,λ_=>([(4,vB t)],[]))) ?_ λ_=>?_
     . exact we hc
     . exact rv ho⟩
instance i34 {lines_0 l_1}:FI ktab 34 (zaE lines_0 l_1) [.val (zb zav) lines_0,.val (zb zk) l_1] (λout=>[wB out]):=⟨λout ho=>by
 delta zaE at ho;refine fn λ_ _=>?_;obtain ⟨ta,ha,ho⟩:=bnd ho;refine gl2 ha ho [0,1] [] [] (λs g=>([(5,vI s)],[])) (λb=>(.exit 0,λg=>([],[]))) (λb=>(.ret,λg=>([(4,vB b)],[]))) [] (λs5 g6 _ ho=>?_) (λba ho ga=>?_) λbb ho ga=>?_
 . exact we ho
 . exact we ho
 . exact rv ho⟩
instance i8 {p_0 lines_1 headway_2 l_3}:FI ktab 8 (za6 p_0 lines_1 headway_2 l_3) [.val zaP p_0,.val (zb zav) lines_1,vI headway_2,.val (zb zk) l_3] (λout=>[wB out]):=⟨λout ho=>by
 delta za6 at ho;refine fn λ_ _=>?_;refine run 8 ?_;refine ziy (R:=zke) zAr (.n rfl) rfl rfl rfl (.p (.t rfl) rfl (.z (λ_=>zns) (.z (λ_=>zns) (.n rfl)))) ?_;refine gal λb1=>?_;refine zhY 0 zAm rfl (zq (zt rfl) (zq (zt rfl) (zq (zt rfl) za7 rfl) rfl) rfl) (by rfl) (.n rfl) rfl rfl (.t rfl) (.t rfl) (by rfl) ?_;refine ze8 (zen (q:=1) 0 rfl rfl rfl) ?_;refine ze8 (zcS (zj .i64)) ?_;refine ze8 (zen (q:=2) 1 rfl rfl rfl) ?_;refine ze8 (zcS (zj .i64)) ?_;obtain ⟨c6,hc6,ho⟩:=bnd ho;refine run 3 ?_;refine gcx c6 [1,2,3,4,9] [0,1,2] (λt=>(.normal,λ_=>([(33,vB t)],[]))) ?_ λ_=>?_
 . have ho:=hc6;refine run 2 ?_;refine zvt (R:=zbM) (a:=(lines_1,[],[],())) 2 (λ_ h=>by cases h<;>rfl) iu' (zmB (zya rfl) (zmB ztj (zmB ztj zvs))) (.n rfl) rfl rfl (.t rfl) rfl ?_;refine gcl ho λy7 hy7 ho=>?_;refine wbr ho (λhb8 ho=>?_) λhb8 ho=>?_
   . exact lv [] [0,1,2] ho
   . refine wbr ho (λhb9 ho=>?_) λhb9 ho=>?_
     . exact lv [] [0,1,2] ho
     . refine wbr ho (λha ho=>?_) λha ho=>?_
       . exact lv [] [0,1,2] ho
       . exact lv [] [0,1,2] ho
 . refine gct ho (λhc ho=>?_) λhc ho=>?_
   . exact we ho
   . refine gcl ho λya hu ho=>?_;obtain ⟨ta,hd,ho⟩:=bnd ho;refine glp hd [1,2,3,4,9,10,11] [] [2,0,1] (λs g=>([(12,vI s.1)],[(.ptr b1 0,.box [.val (zb zav) lines_1,.raw (gh g 1),.raw (gh g 0)]),((gh g 0),.row (zj .i64) s.2.1),((gh g 1),.row (zj .i64) s.2.2)])) (λb=>(.exit 0,λg=>([],[(.ptr b1 0,.box [.val (zb zav) lines_1,.raw (gh g 0),.raw (gh g 1)]),((gh g 0),.row (zj .i64) b.1),((gh g 1),.row (zj .i64) b.2)]))) [.nilslice,.nilslice] (λsa ga _ ho=>?_) λgb=>?_
     . refine gct ho (λhe ho=>?_) λhe ho=>?_
       . refine run 3 ?_;refine zar [1,6,1000009] (by kernel_rfl) ?_;obtain ⟨xa,hf,ho⟩:=bnd ho;refine run 4 ?_;refine zl4 2 is' iy' hf (.n rfl) rfl rfl rfl rfl rfl (.t rfl) rfl (.t rfl) rfl (hra:=roffs rfl (.o 0 rfl rfl (by decide) .n)) ?_;intro va;obtain ⟨xb,hg,ho⟩:=bnd ho;refine run 3 ?_;refine zl4 2 is' iy' hg (.n rfl) rfl rfl rfl rfl rfl (.t rfl) rfl (.t rfl) rfl (hra:=roffs rfl (.o 1 rfl rfl (by decide) .n)) ?_;intro vb;refine run 1 ?_;refine zb4 2 1 (U27).sz rfl rfl (by exact Nat.le_of_ble_eq_true rfl) (.n rfl) rfl rfl (.t rfl) (.t rfl) (by rfl) ?_;refine run 1 ?_;refine zb4 2 0 (U27).sz rfl rfl (by exact Nat.le_of_ble_eq_true rfl) (.n rfl) rfl rfl (.t rfl) (.t rfl) (by rfl) ?_;exact lv [vb,va] [2,0,1] ho
       . exact lv [(gh ga 1),(gh ga 0)] [0,2,1] ho
     . refine run 4 ?_;refine ze8 (zcV 1 0 (q:=1) [] rfl rfl rfl rfl (by rfl) trivial) ?_;refine ze8 (zcV 1 0 (q:=2) [] rfl rfl rfl rfl (by rfl) trivial) ?_;refine glb (lines_1,ta.1,ta.2,()) 0 ?_;refine gcl ho λyb hv ho=>?_;refine wbr ho (λhh ho=>?_) λhh ho=>?_
       . refine gk ?_;obtain ⟨ca,hi,ho⟩:=bnd ho;refine run 1 ?_;refine gcx ca [] [0] (λt=>(.normal,λ_=>([(8,vB t)],[]))) ?_ λ_=>?_
         . have ho:=hi;refine wbr ho (λhj ho=>?_) λhj ho=>?_
           . refine wbr ho (λhk ho=>?_) λhk ho=>?_
             . refine gcl ho λyc hw ho=>?_;exact lv [] [0] ho
             . exact lv [] [0] ho
           . exact lv [] [0] ho
         . exact rv ho
       . refine gcl ho λyd hy ho=>?_;refine gct ho (λhl ho=>?_) λhl ho=>?_
         . obtain ⟨cc,hm,ho⟩:=bnd ho;refine run 1 ?_;refine gcx cc [] [0] (λt=>(.normal,λ_=>([(8,vB t)],[]))) ?_ λ_=>?_
           . have ho:=hm;refine wbr ho (λhn ho=>?_) λhn ho=>?_
             . refine wbr ho (λhp ho=>?_) λhp ho=>?_
               . refine gcl ho λye hz ho=>?_;exact lv [] [0] ho
               . exact lv [] [0] ho
             . exact lv [] [0] ho
           . exact rv ho
         . refine gcl ho λyf hA ho=>?_;intro vc;show zr ..;obtain ⟨cd,hr,ho⟩:=bnd ho;refine run 7 ?_;refine gcx cd [] [0,1] (λt=>(.normal,λ_=>([(8,vB t)],[]))) ?_ λ_=>?_
           . have ho:=hr;refine wbr ho (λhs ho=>?_) λhs ho=>?_
             . refine gcl ho λyg hB ho=>?_;refine wbr ho (λht ho=>?_) λht ho=>?_
               . refine gcl ho λyh hC ho=>?_;exact lv [] [0,1] ho
               . exact lv [] [0,1] ho
             . exact lv [] [0,1] ho
           . exact rv ho⟩
end Go.Ai.TabYtppebpagcocogaaGreat