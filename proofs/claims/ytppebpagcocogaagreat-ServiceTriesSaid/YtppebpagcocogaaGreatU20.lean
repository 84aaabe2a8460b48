/- Written by program: walks through functions. -/
import Derived.Test.YtppebpagcocogaaGreatU11
import Derived.Test.YtppebpagcocogaaGreatU18
import Derived.Test.YtppebpagcocogaaGreatU19
set_option linter.unusedSimpArgs false
set_option linter.unusedVariables false
set_option linter.unusedSectionVars false
namespace Go.Ai.TabYtppebpagcocogaaGreat
open Go Go.Ai Go.Ai.Sx Go.Proofs
attribute [local irreducible] zr
set_option maxRecDepth 100000
set_option maxHeartbeats 4000000
instance i174 {r_0 x_1 stop_2}:FI ktab 174 (zb0 r_0 x_1 stop_2) [.val (z5 zap) r_0,.val zu x_1,vI stop_2] (λout=>[wB out]):=⟨λout ho=>by
 delta zb0 at ho;refine fn λ_ _=>?_;refine gal λb1=>?_;refine gcl ho λy2 hy2 ho=>?_;refine gct ho (λhq3 ho=>?_) λhq3 ho=>?_
 . exact we ho
 . refine gal λb4=>?_;refine run 11 ?_;refine zi4 (X:=zd) (Y:=Int) (λx=>[.val zu x]) (λy=>[.val (zj .i64) y]) (f:=(λx=>zaA r_0 x)) (λx y hf=>i172.ok _ hf) rfl (.n rfl) rfl rfl (.c (.t rfl) .n) .n ?_;obtain ⟨y7,hy7,ho⟩:=bnd ho;refine zwN (zfx hy7) rfl (.n rfl) rfl rfl rfl .f (.c (.t rfl) (.c (.t rfl) (.c (.t rfl) .n))) ?_;intro b8;obtain ⟨ta,ha,ho⟩:=bnd ho;refine run 2 ?_;obtain ⟨ta,t21b⟩:=ta;refine zuo (σ:=(Int×Int)) (τ:=(Int×Int)) (X:=zd) (ins:=(λx=>[.val zu x])) (zA4 (λs g=>[(.ptr b4 0,.box [vI s.1,vI s.2]),(.ptr b1 0,.box [vB false])]) (λt g=>[(.ptr b4 0,.box [vI t.1,vI t.2]),(.ptr b1 0,.box [vB false])])) (λ_=>none) (s0:=(x_1.1,x_1.2.1)) (r:=ta) [] [1,2] [0] [] rfl (.t rfl) rfl rfl rfl (by decide) (λ_=>rfl) (λyv K hcb γ=>zrO (zr1 (ze4 hcb ha b8 γ))) ?_ ?_
   . clear ho ha;intro sa ga x9 r22 ho C;refine gal λba=>?_;refine gfz 1 zu x9 0 [8] ?_;refine ziw (λfr h s=>And.intro rfl (Exists.intro _ (Exists.intro _ (And.intro s (λC=>?_)))));refine gcl ho λya hd ho=>?_;refine gct ho (λhc ho=>?_) λhc ho=>?_
     . refine run 4 ?_;cases ho; exact zd0 (λfr h s=>And.intro rfl (Exists.intro [] (s.pick [0,1] trivial rfl (by decide))))
     . refine run 4 ?_;cases ho; exact ziw (λfr h s=>And.intro rfl (Exists.intro [] (s.pick [0,1] trivial rfl (by decide))))
   . clear ha;rcases ta with bb | bc
     . have ho:=zrH ho;intro gb;refine gwk [0,1,2,3,4,5,6,7,9,10,11,12,13,14,15,16,17,18,19,20,21] [0,1] ?_;exact we ho
     . have ho:=zrI ho;intro gc;refine gwk [0,1,2,3,4,5,6,7,9,10,11,12,13,14,15,16,17,18,19,20,21] [0,1] ?_;exact rv ho⟩
instance i145 {r_0 x_1 stop_2}:FI ktab 145 (zaC r_0 x_1 stop_2) [.val (z5 zap) r_0,.val zu x_1,vI stop_2] (λout=>[.val zaB out.1,wB out.2]):=⟨λout ho=>by
 delta zaC at ho;refine fn λ_ _=>?_;refine gal λb1=>?_;refine run 2 ?_;refine zwx (by exact zt5) ?_;refine gcl ho λy2 hy2 ho=>?_;refine gal λb3=>?_;obtain ⟨ta,ha,ho⟩:=bnd ho;refine glp ha [0,2,4,6,8,9] [1] [0,1] (λs g=>([(10,vB s.1),(17,vI s.2.1)],[(.ptr b3 0,.box [vI s.2.2.1,vI s.2.2.2.1,vI s.2.2.2.2.1,vI s.2.2.2.2.2.1,vI s.2.2.2.2.2.2.1,vI s.2.2.2.2.2.2.2.1,vI s.2.2.2.2.2.2.2.2.1,vI s.2.2.2.2.2.2.2.2.2.1,vI s.2.2.2.2.2.2.2.2.2.2.1,vI s.2.2.2.2.2.2.2.2.2.2.2])])) (λb=>(.exit 0,λg=>([(10,vB b.1)],[(.ptr b3 0,.box [vI b.2.1,vI b.2.2.1,vI b.2.2.2.1,vI b.2.2.2.2.1,vI b.2.2.2.2.2.1,vI b.2.2.2.2.2.2.1,vI b.2.2.2.2.2.2.2.1,vI b.2.2.2.2.2.2.2.2.1,vI b.2.2.2.2.2.2.2.2.2.1,vI b.2.2.2.2.2.2.2.2.2.2])]))) [] (λsa ga _ ho=>?_) λgb=>?_
 . refine gct ho (λhc ho=>?_) λhc ho=>?_
   . refine gcl ho λya hf ho=>?_;refine gal λba=>?_;refine gfz 1 zaB ya.1 0 [12] ?_;refine wbr ho (λhd ho=>?_) λhd ho=>?_
     . refine gcl ho λyb hg ho=>?_;refine gct ho (λhe ho=>?_) λhe ho=>?_
       . exact lv [] [0,1] ho
       . exact lv [] [0,1] ho
     . refine gk ?_;exact lv [] [0,1] ho
   . exact lv [] [0,1] ho
 . refine glb ((ta.2.1,ta.2.2.1,()),(ta.2.2.2.1,ta.2.2.2.2.1,ta.2.2.2.2.2.1,ta.2.2.2.2.2.2.1,ta.2.2.2.2.2.2.2.1,ta.2.2.2.2.2.2.2.2.1,()),ta.2.2.2.2.2.2.2.2.2.1,ta.2.2.2.2.2.2.2.2.2.2,()) 0 ?_;exact we ho⟩
instance i146 {l_0}:FI ktab 146 (zcK l_0) [.val (zb zx) l_0] (λout=>[.val zx out]):=⟨λout ho=>by
 delta zcK at ho;refine fn λ_ _=>?_;refine gal λb1=>?_;refine gal λb2=>?_;obtain ⟨ta,ha,ho⟩:=bnd ho;refine glp ha [2,3,6,7] [1] [0,1] (λs g=>([(8,vI s.1)],[(.ptr b2 0,.box [vI s.2.1,vI s.2.2.1,vI s.2.2.2.1,vI s.2.2.2.2.1,vI s.2.2.2.2.2.1,vI s.2.2.2.2.2.2])])) (λb=>(.exit 0,λg=>([],[(.ptr b2 0,.box [vI b.1,vI b.2.1,vI b.2.2.1,vI b.2.2.2.1,vI b.2.2.2.2.1,vI b.2.2.2.2.2])]))) [] (λs9 ga _ ho=>?_) λgb=>?_
 . refine gct ho (λhc ho=>?_) λhc ho=>?_
   . obtain ⟨xa,hd,ho⟩:=bnd ho;refine gal λba=>?_;refine gfz 1 zx xa 0 [5] ?_;exact lv [] [0,1] ho
   . exact lv [] [0,1] ho
 . refine glb (ta.1,ta.2.1,ta.2.2.1,ta.2.2.2.1,ta.2.2.2.2.1,ta.2.2.2.2.2,()) 0 ?_;exact we ho⟩
instance i122 {r_0 x_1 stop_2}:FI ktab 122 (zbd r_0 x_1 stop_2) [.val (z5 zap) r_0,.val zu x_1,vI stop_2] (λout=>[.val zf0 out.1,.val zu out.2.1,wB out.2.2]):=⟨λout ho=>by
 delta zbd at ho;refine fn λ_ _=>?_;refine run 2 ?_;refine xbo λb1=>?_;refine gal λb2=>?_;refine gal λb3=>?_;refine gal λb4=>?_;obtain ⟨ta,ha,ho⟩:=bnd ho;refine glp ha [0,2,4,6,7,9] [] [0,1,2,3] (λs g=>([(10,vI s.1)],[(.ptr b4 0,.box [vI s.2.1,vI s.2.2.1,vI s.2.2.2.1,vI s.2.2.2.2.1,vI s.2.2.2.2.2.1,vI s.2.2.2.2.2.2.1,vI s.2.2.2.2.2.2.2.1,vI s.2.2.2.2.2.2.2.2.1,vI s.2.2.2.2.2.2.2.2.2.1,vI s.2.2.2.2.2.2.2.2.2.2.1]),(.ptr b3 0,.box [vI s.2.2.2.2.2.2.2.2.2.2.2.1,vI s.2.2.2.2.2.2.2.2.2.2.2.2.1]),(.ptr b2 0,.box [vI s.2.2.2.2.2.2.2.2.2.2.2.2.2.2.2.2.1,vI s.2.2.2.2.2.2.2.2.2.2.2.2.2.1,vI s.2.2.2.2.2.2.2.2.2.2.2.2.2.2.2.2.2.1,vI s.2.2.2.2.2.2.2.2.2.2.2.2.2.2.2.2.2.2.1,vI s.2.2.2.2.2.2.2.2.2.2.2.2.2.2.2.2.2.2.2.1,vI s.2.2.2.2.2.2.2.2.2.2.2.2.2.2.2.2.2.2.2.2.1,vI s.2.2.2.2.2.2.2.2.2.2.2.2.2.2.2.2.2.2.2.2.2.1,vI s.2.2.2.2.2.2.2.2.2.2.2.2.2.2.2.2.2.2.2.2.2.2.1,vI s.2.2.2.2.2.2.2.2.2.2.2.2.2.2.2.2.2.2.2.2.2.2.2.1,vI s.2.2.2.2.2.2.2.2.2.2.2.2.2.2.2.2.2.2.2.2.2.2.2.2]),(.ptr b1 0,.box [vI s.2.2.2.2.2.2.2.2.2.2.2.2.2.2.1,vI s.2.2.2.2.2.2.2.2.2.2.2.2.2.2.2.1])])) (λb=>(.ret,λg=>([(8,vB b.1)],[(.ptr b3 0,.box [vI b.2.2.1,vI b.2.2.2.1]),(.ptr b2 0,.box [vI b.2.2.2.2.1,vI b.2.2.2.2.2.1,vI b.2.2.2.2.2.2.1,vI b.2.2.2.2.2.2.2.1,vI b.2.2.2.2.2.2.2.2.1,vI b.2.2.2.2.2.2.2.2.2.1,vI b.2.2.2.2.2.2.2.2.2.2.1,vI b.2.2.2.2.2.2.2.2.2.2.2.1,vI b.2.2.2.2.2.2.2.2.2.2.2.2.1,vI b.2.2.2.2.2.2.2.2.2.2.2.2.2.1])]))) [] (λsa ga _ ho=>?_) λgb=>?_
 . refine run 4 ?_;refine zar [4] (by kernel_rfl) ?_;refine glb (sa.2.2.2.2.2.2.2.2.2.2.2.2.2.2.1,sa.2.2.2.2.2.2.2.2.2.2.2.2.2.2.2.1,()) 3 ?_;refine gcl ho λyc hk ho=>?_;refine wbr ho (λhc ho=>?_) λhc ho=>?_
   . refine gcl ho λyf hl ho=>?_;refine gct ho (λhd ho=>?_) λhd ho=>?_
     . refine run 7 ?_;refine zar [0,1,1000004,1000006,1000007,1000009] (by kernel_rfl) ?_ (hdi:=rdists rfl (rowns rfl) (.c (.o (j:=3) rfl rfl) (.c (.o (j:=2) rfl rfl) (.c (.o (j:=1) rfl rfl) (.c (.o (j:=0) rfl rfl) .n)))) rfl);refine glb (sa.2.1,yc,(sa.2.2.2.1,sa.2.2.2.2.1,sa.2.2.2.2.2.1,sa.2.2.2.2.2.2.1,sa.2.2.2.2.2.2.2.1,sa.2.2.2.2.2.2.2.2.1,()),sa.2.2.2.2.2.2.2.2.2.1,sa.2.2.2.2.2.2.2.2.2.2.1,()) 0 ?_;refine glb (sa.2.2.2.2.2.2.2.2.2.2.2.2.2.2.1,sa.2.2.2.2.2.2.2.2.2.2.2.2.2.2.2.1,()) 3 ?_;exact lv [] [1,2] ho
     . refine gct ho (λhe ho=>?_) λhe ho=>?_
       . refine run 1 ?_;refine zar [0,1,1000004,1000006,1000007,1000009] (by kernel_rfl) ?_ (hdi:=rdists rfl (rowns rfl) (.c (.o (j:=3) rfl rfl) (.c (.o (j:=2) rfl rfl) (.c (.o (j:=1) rfl rfl) (.c (.o (j:=0) rfl rfl) .n)))) rfl);refine glb (sa.2.1,sa.2.2.1,(sa.2.2.2.1,sa.2.2.2.2.1,sa.2.2.2.2.2.1,sa.2.2.2.2.2.2.1,sa.2.2.2.2.2.2.2.1,sa.2.2.2.2.2.2.2.2.1,()),sa.2.2.2.2.2.2.2.2.2.1,sa.2.2.2.2.2.2.2.2.2.2.1,()) 0 ?_;refine glb (sa.2.2.2.2.2.2.2.2.2.2.2.2.2.2.1,sa.2.2.2.2.2.2.2.2.2.2.2.2.2.2.2.1,()) 3 ?_;exact lv [] [1,2] ho
       . refine glb (sa.2.2.2.2.2.2.2.2.2.2.2.2.2.2.1,sa.2.2.2.2.2.2.2.2.2.2.2.2.2.2.2.1,()) 3 ?_;refine gcl ho λyd hm ho=>?_;refine gal λba=>?_;refine gfz 1 zaB yd.1 0 [12] ?_;refine wbr ho (λhf ho=>?_) λhf ho=>?_
         . refine gk ?_;refine run 1 ?_;refine zar [0,1,1000004,1000006,1000007,1000009] (by kernel_rfl) ?_ (hdi:=rdists rfl (rowns rfl) (.c (.o (j:=3) rfl rfl) (.c (.o (j:=2) rfl rfl) (.c (.o (j:=1) rfl rfl) (.c (.o (j:=0) rfl rfl) .n)))) rfl);refine glb (sa.2.1,sa.2.2.1,(sa.2.2.2.1,sa.2.2.2.2.1,sa.2.2.2.2.2.1,sa.2.2.2.2.2.2.1,sa.2.2.2.2.2.2.2.1,sa.2.2.2.2.2.2.2.2.1,()),sa.2.2.2.2.2.2.2.2.2.1,sa.2.2.2.2.2.2.2.2.2.2.1,()) 0 ?_;refine glb (sa.2.2.2.2.2.2.2.2.2.2.2.2.2.2.1,sa.2.2.2.2.2.2.2.2.2.2.2.2.2.2.2.1,()) 3 ?_;exact lv [] [1,2] ho
         . refine gct ho (λhg ho=>?_) λhg ho=>?_
           . refine run 1 ?_;refine zar [0,1,1000004,1000006,1000007,1000009] (by kernel_rfl) ?_ (hdi:=rdists rfl (rowns rfl) (.c (.o (j:=3) rfl rfl) (.c (.o (j:=2) rfl rfl) (.c (.o (j:=1) rfl rfl) (.c (.o (j:=0) rfl rfl) .n)))) rfl);refine glb (sa.2.1,sa.2.2.1,(sa.2.2.2.1,sa.2.2.2.2.1,sa.2.2.2.2.2.1,sa.2.2.2.2.2.2.1,sa.2.2.2.2.2.2.2.1,sa.2.2.2.2.2.2.2.2.1,()),sa.2.2.2.2.2.2.2.2.2.1,sa.2.2.2.2.2.2.2.2.2.2.1,()) 0 ?_;refine glb (sa.2.2.2.2.2.2.2.2.2.2.2.2.2.2.1,sa.2.2.2.2.2.2.2.2.2.2.2.2.2.2.2.1,()) 3 ?_;exact lv [] [1,2] ho
           . refine run 18 ?_;refine zjk (R:=zx) (a:=(sa.2.2.2.1,sa.2.2.2.2.1,sa.2.2.2.2.2.1,sa.2.2.2.2.2.2.1,sa.2.2.2.2.2.2.2.1,sa.2.2.2.2.2.2.2.2.1,())) (off:=2) 0 (λ_ h=>by cases h<;>rfl) iu' zbH (by exact Nat.le_of_ble_eq_true rfl) (.n rfl) rfl rfl (.t rfl) rfl ?_;refine gcl ho λya hn ho=>?_;refine run 1 ?_;refine zfQ (off:=2) (es':=[vI ya.1,vI ya.2.1,vI ya.2.2.1,vI ya.2.2.2.1,vI ya.2.2.2.2.1,vI ya.2.2.2.2.2.1]) 0 iu' rfl zbH (by exact Nat.le_of_ble_eq_true rfl) (.n rfl) rfl rfl (.t rfl) (.t rfl) (by rfl) ?_;refine run 1 ?_;refine zar [1,6] (by kernel_rfl) ?_;exact lv [] [0,1,2,3] ho
   . refine gk ?_;refine gct ho (λhh ho=>?_) λhh ho=>?_
     . refine run 1 ?_;refine zar [0,1,1000004,1000006,1000007,1000009] (by kernel_rfl) ?_ (hdi:=rdists rfl (rowns rfl) (.c (.o (j:=3) rfl rfl) (.c (.o (j:=2) rfl rfl) (.c (.o (j:=1) rfl rfl) (.c (.o (j:=0) rfl rfl) .n)))) rfl);refine glb (sa.2.1,sa.2.2.1,(sa.2.2.2.1,sa.2.2.2.2.1,sa.2.2.2.2.2.1,sa.2.2.2.2.2.2.1,sa.2.2.2.2.2.2.2.1,sa.2.2.2.2.2.2.2.2.1,()),sa.2.2.2.2.2.2.2.2.2.1,sa.2.2.2.2.2.2.2.2.2.2.1,()) 0 ?_;refine glb (sa.2.2.2.2.2.2.2.2.2.2.2.2.2.2.1,sa.2.2.2.2.2.2.2.2.2.2.2.2.2.2.2.1,()) 3 ?_;exact lv [] [1,2] ho
     . refine glb (sa.2.2.2.2.2.2.2.2.2.2.2.2.2.2.1,sa.2.2.2.2.2.2.2.2.2.2.2.2.2.2.2.1,()) 3 ?_;refine gcl ho λye hp ho=>?_;refine gal λbb=>?_;refine gfz 1 zaB ye.1 0 [12] ?_;refine wbr ho (λhi ho=>?_) λhi ho=>?_
       . refine gk ?_;refine run 1 ?_;refine zar [0,1,1000004,1000006,1000007,1000009] (by kernel_rfl) ?_ (hdi:=rdists rfl (rowns rfl) (.c (.o (j:=3) rfl rfl) (.c (.o (j:=2) rfl rfl) (.c (.o (j:=1) rfl rfl) (.c (.o (j:=0) rfl rfl) .n)))) rfl);refine glb (sa.2.1,sa.2.2.1,(sa.2.2.2.1,sa.2.2.2.2.1,sa.2.2.2.2.2.1,sa.2.2.2.2.2.2.1,sa.2.2.2.2.2.2.2.1,sa.2.2.2.2.2.2.2.2.1,()),sa.2.2.2.2.2.2.2.2.2.1,sa.2.2.2.2.2.2.2.2.2.2.1,()) 0 ?_;refine glb (sa.2.2.2.2.2.2.2.2.2.2.2.2.2.2.1,sa.2.2.2.2.2.2.2.2.2.2.2.2.2.2.2.1,()) 3 ?_;exact lv [] [1,2] ho
       . refine gct ho (λhj ho=>?_) λhj ho=>?_
         . refine run 1 ?_;refine zar [0,1,1000004,1000006,1000007,1000009] (by kernel_rfl) ?_ (hdi:=rdists rfl (rowns rfl) (.c (.o (j:=3) rfl rfl) (.c (.o (j:=2) rfl rfl) (.c (.o (j:=1) rfl rfl) (.c (.o (j:=0) rfl rfl) .n)))) rfl);refine glb (sa.2.1,sa.2.2.1,(sa.2.2.2.1,sa.2.2.2.2.1,sa.2.2.2.2.2.1,sa.2.2.2.2.2.2.1,sa.2.2.2.2.2.2.2.1,sa.2.2.2.2.2.2.2.2.1,()),sa.2.2.2.2.2.2.2.2.2.1,sa.2.2.2.2.2.2.2.2.2.2.1,()) 0 ?_;refine glb (sa.2.2.2.2.2.2.2.2.2.2.2.2.2.2.1,sa.2.2.2.2.2.2.2.2.2.2.2.2.2.2.2.1,()) 3 ?_;exact lv [] [1,2] ho
         . refine run 18 ?_;refine zjk (R:=zx) (a:=(sa.2.2.2.1,sa.2.2.2.2.1,sa.2.2.2.2.2.1,sa.2.2.2.2.2.2.1,sa.2.2.2.2.2.2.2.1,sa.2.2.2.2.2.2.2.2.1,())) (off:=2) 0 (λ_ h=>by cases h<;>rfl) iu' zbH (by exact Nat.le_of_ble_eq_true rfl) (.n rfl) rfl rfl (.t rfl) rfl ?_;refine gcl ho λyb hr ho=>?_;refine run 1 ?_;refine zfQ (off:=2) (es':=[vI yb.1,vI yb.2.1,vI yb.2.2.1,vI yb.2.2.2.1,vI yb.2.2.2.2.1,vI yb.2.2.2.2.2.1]) 0 iu' rfl zbH (by exact Nat.le_of_ble_eq_true rfl) (.n rfl) rfl rfl (.t rfl) (.t rfl) (by rfl) ?_;refine run 1 ?_;refine zar [1,6] (by kernel_rfl) ?_;exact lv [] [0,1,2,3] ho
 . exact rv ho⟩
instance i95 {p_0 way_1 t_2 state_3 stops_4}:FI ktab 95 (zbY p_0 way_1 t_2 state_3 stops_4) [.val zaP p_0,.val (zb zW) way_1,.val zbG t_2,vI state_3,.val (zb (zj .i64)) stops_4] (λout=>[.row zf0 out.1,wI out.2]):=⟨λout ho=>by
 delta zbY at ho;refine fn λ_ _=>?_;refine gnr zf0 ?_;refine gcl ho λy1 hy1 ho=>?_;refine gct ho (λhq2 ho=>?_) λhq2 ho=>?_
 . refine gnr zf0 ?_;exact we ho
 . obtain ⟨x5,hx5,ho⟩:=bnd ho;refine gal λb6=>?_;refine gnr zf0 ?_;obtain ⟨x7,hx7,ta,ha,ho⟩:=zhr ho;refine gl2 ha ho [12,14,41,42] [] [1,0] (λs g=>([(15,.raw (gh g 0)),(43,vI s.2.1)],[(.ptr b6 0,.box [vI s.2.2.1,vI s.2.2.2]),((gh g 0),.row zf0 s.1)])) (λb=>(.exit 0,λg=>([(15,.raw (gh g 0))],[((gh g 0),.row zf0 b.1)]))) (λb=>(.ret,λg=>([(10,.raw (gh g 0)),(11,vI b.2.1)],[((gh g 0),.row zf0 b.1)]))) [.nilslice] (λsa ga _ ho=>?_) (λba ho gb=>?_) λbb ho gb=>?_
   . refine gct ho (λhc ho=>?_) λhc ho=>?_
     . obtain ⟨xa,hg,ho⟩:=bnd ho;refine glb (sa.2.2.1,sa.2.2.2,()) 0 ?_;obtain ⟨pa,hd,ho⟩:=bnd ho;refine run 1 ?_;refine ze8 (zcW (n:=48) hd rfl) ?_;refine gcl ho λya hh ho=>?_;refine gal λbc=>?_;refine gal λbd=>?_;refine gfz 1 zf0 ya.1 1 [18] ?_;refine gfz 1 zu ya.2.1 0 [19] ?_;refine wbr ho (λhe ho=>?_) λhe ho=>?_
       . refine gk ?_;refine gnr zf0 ?_;exact lv [.nilslice] [0] ho
       . refine gct ho (λhf ho=>?_) λhf ho=>?_
         . refine gnr zf0 ?_;exact lv [.nilslice] [0] ho
         . obtain ⟨xb,hi,ho⟩:=bnd ho;refine gap λva=>?_;exact lv [va] [1,0] ho
     . exact lv [(gh ga 0)] [1] ho
   . exact we ho
   . exact rv ho⟩
instance i96 {l_0 field_1}:FI ktab 96 (zaD l_0 field_1) [.val (zb zf0) l_0,.val (rFn ktab (Leg) (Int) (λx=>[.val zf0 (x)]) (λy=>[.val (zj .i64) (y)])) field_1] (λout=>[.row (zj .i64) out]):=⟨λout ho=>by
 delta zaD at ho;refine fn λ_ _=>?_;refine gnr (zj .i64) ?_;refine gnr (zj .i64) ?_;obtain ⟨ta,ha,ho⟩:=bnd ho;refine glp ha [1,8,9] [] [0] (λs g=>([(5,.raw (gh g 0)),(10,vI s.2)],[((gh g 0),.row (zj .i64) s.1)])) (λb=>(.exit 0,λg=>([(5,.raw (gh g 0))],[((gh g 0),.row (zj .i64) b)]))) [.nilslice] (λs7 g8 _ ho=>?_) λga=>?_
 . refine gct ho (λhq9 ho=>?_) λhq9 ho=>?_
   . obtain ⟨xa,hd,ho⟩:=bnd ho;refine gal λba=>?_;refine gfz 1 zf0 xa 0 [7] ?_;obtain ⟨ya,hc,ho⟩:=bnd ho;refine gcv hc ?_;obtain ⟨xb,he,ho⟩:=bnd ho;refine gap λva=>?_;exact lv [va] [0] ho
   . exact lv [(gh g8 0)] [0] ho
 . exact we ho⟩
instance i97 {x_0}:FI ktab 97 (zew x_0) [.val zf0 x_0] (λout=>[wI out]):=fw
instance i53 {p_0 way_1 t_2 state_3 stops_4}:FI ktab 53 (zbK p_0 way_1 t_2 state_3 stops_4) [.val zaP p_0,.val (zb zW) way_1,.val zbG t_2,vI state_3,.val (zb (zj .i64)) stops_4] (λout=>[.row (zj .i64) out.1,wI out.2]):=⟨λout ho=>by
 delta zbK at ho;refine fn λ_ _=>?_;refine gnr (zj .i64) ?_;refine gcl ho λy1 hy1 ho=>?_;intro v2;show zr ..;refine gct ho (λhq3 ho=>?_) λhq3 ho=>?_
 . refine gnr (zj .i64) ?_;exact we ho
 . obtain ⟨y4,hy4,ho⟩:=bnd ho;refine run 4 ?_;refine zj1 (i96.ok _ hy4) (.r zjl .n) rfl (.n rfl) rfl rfl rfl .f (.c (.r 0 (.t rfl) rfl) (.c (.o (.fv (zhZ (λx y hf=>i97.ok _ hf) rfl))) .n)) ?_;intro v5;exact we ho⟩
instance i100 {p_0 l_1 c_2}:FI ktab 100 (za5 p_0 l_1 c_2) [.val zaP p_0,.val zav l_1,.val zcx c_2] (λout=>[.row (zj .i64) out.1,.row (zj .i64) out.2.1,wB out.2.2]):=⟨λout ho=>by
 delta za5 at ho;refine fn λ_ _=>?_;refine gnr (zj .i64) ?_;refine gnr (zj .i64) ?_;refine gcl ho λy1 hy1 ho=>?_;obtain ⟨c9,hc9,ho⟩:=bnd ho;refine run 8 ?_;refine gcx c9 [3,4,5,9,10] [0,1] (λt=>(.normal,λ_=>([(58,vB t)],[]))) ?_ λ_=>?_
 . have ho:=hc9;refine wbr ho (λha ho=>?_) λha ho=>?_
   . exact lv [] [0,1] ho
   . refine gcl ho λyb hu ho=>?_;refine wbr ho (λhc ho=>?_) λhc ho=>?_
     . exact lv [] [0,1] ho
     . refine wbr ho (λhd ho=>?_) λhd ho=>?_
       . exact lv [] [0,1] ho
       . obtain ⟨xa,hv,ho⟩:=bnd ho;refine wbr ho (λhe ho=>?_) λhe ho=>?_
         . exact lv [] [0,1] ho
         . obtain ⟨xb,hw,ho⟩:=bnd ho;exact lv [] [0,1] ho
 . refine gct ho (λhf ho=>?_) λhf ho=>?_
   . refine gnr (zj .i64) ?_;refine gnr (zj .i64) ?_;refine run 2 ?_;cases ho; exact zd0 (zcT (.inr rfl) (.r 1 rfl rfl (.r 0 rfl rfl (.v rfl .n))) (by decide))
   . obtain ⟨ta,hg,ho⟩:=bnd ho;refine gl2 hg ho [3,4,5,9,10,60,61] [] [] (λs g=>([(62,vI s)],[])) (λb=>(.exit 0,λg=>([],[]))) (λb=>(.ret,λg=>([(6,.raw (gh g 0)),(7,.raw (gh g 1)),(8,vB b.2.2)],[((gh g 0),.row (zj .i64) b.1),((gh g 1),.row (zj .i64) b.2.1)]))) [] (λsa gb _ ho=>?_) (λba ho ga=>?_) λbb ho ga=>?_
     . refine gct ho (λhh ho=>?_) λhh ho=>?_
       . obtain ⟨xd,hy,ho⟩:=bnd ho;refine gcl ho λyc hz ho=>?_;refine wbr ho (λhi ho=>?_) λhi ho=>?_
         . refine gk ?_;refine gnr (zj .i64) ?_;refine gnr (zj .i64) ?_;exact lv [.nilslice,.nilslice] [1,0] ho
         . refine wbr ho (λhj ho=>?_) λhj ho=>?_
           . obtain ⟨xe,hA,ho⟩:=bnd ho;refine wbr ho (λhk ho=>?_) λhk ho=>?_
             . refine gk ?_;refine gnr (zj .i64) ?_;refine gnr (zj .i64) ?_;exact lv [.nilslice,.nilslice] [1,0] ho
             . obtain ⟨xf,hB,ho⟩:=bnd ho;refine gcl ho λyd hC ho=>?_;refine gct ho (λhl ho=>?_) λhl ho=>?_
               . refine gnr (zj .i64) ?_;refine gnr (zj .i64) ?_;exact lv [.nilslice,.nilslice] [1,0] ho
               . exact we ho
           . obtain ⟨xg,hD,ho⟩:=bnd ho;refine gcl ho λye hE ho=>?_;refine gct ho (λhm ho=>?_) λhm ho=>?_
             . refine gnr (zj .i64) ?_;refine gnr (zj .i64) ?_;exact lv [.nilslice,.nilslice] [1,0] ho
             . exact we ho
       . exact lv [] [] ho
     . refine gcl ho λya hF ho=>?_;intro vc;show zr ..;obtain ⟨ca,hn,ho⟩:=bnd ho;refine run 8 ?_;refine gcx ca [5,9,14] [0] (λt=>(.normal,λ_=>([(116,vB t)],[]))) ?_ λ_=>?_
       . have ho:=hn;refine wbr ho (λhp ho=>?_) λhp ho=>?_
         . exact lv [] [0] ho
         . exact lv [] [0] ho
       . refine gct ho (λhr ho=>?_) λhr ho=>?_
         . refine gnr (zj .i64) ?_;refine gnr (zj .i64) ?_;refine run 2 ?_;cases ho; exact zd0 (zcT (.inr rfl) (.r 1 rfl rfl (.r 0 rfl rfl (.v rfl .n))) (by decide))
         . obtain ⟨xh,hG,ho⟩:=bnd ho;refine gmk λva=>?_;refine run 1 ?_;obtain ⟨xi,hH,ho⟩:=bnd ho;refine gmk λvb=>?_;obtain ⟨tb,hs,ho⟩:=bnd ho;refine glp hs [5,9,15,16,121,122] [] [0,1,2] (λs g=>([(123,vI s.1)],[(vb,.row (zj .i64) s.2.1),(va,.row (zj .i64) s.2.2),(vc,.row (zj .i64) ya.1)])) (λb=>(.exit 2,λg=>([],[(vb,.row (zj .i64) b.1),(va,.row (zj .i64) b.2)]))) [] (λsb gc _ ho=>?_) λgd=>?_
           . refine gct ho (λht ho=>?_) λht ho=>?_
             . obtain ⟨xj,hI,xk,hJ,xl,hK,ho⟩:=zvJ ho;refine run 23 ?_;refine zar [6,11] (by kernel_rfl) ?_;obtain ⟨xm,hL,xn,hM,xo,hN,ho⟩:=zvJ ho;obtain ⟨xp,hO,ho⟩:=bnd ho;exact lv [] [0,1,2] ho
             . exact lv [] [0,1] ho
           . refine run 1 ?_;refine zar [6] (by kernel_rfl) ?_;obtain ⟨xq,hP,ho⟩:=bnd ho;refine run 12 ?_;cases ho; exact zd0 (zcT (.inr rfl) (.r 1 rfl rfl (.r 0 rfl rfl (.v rfl .n))) (by decide))
     . cases ho; exact id (zcT (.inr rfl) (.r 0 rfl rfl (.r 1 rfl rfl (.v rfl .n))) (by decide))⟩
end Go.Ai.TabYtppebpagcocogaaGreat
/- Written by program: walks through functions. -/
namespace Go.Ai.TabYtppebpagcocogaaGreat
open Go Go.Ai Go.Ai.Sx Go.Proofs
attribute [local irreducible] zr
set_option maxRecDepth 100000
set_option maxHeartbeats 4000000
instance i54 {p_0 l_1}:FI ktab 54 (zby p_0 l_1) [.val zaP p_0,.val zav l_1] (λout=>[.val (zfH zg) out.1,wB out.2]):=⟨λout ho=>by
 delta zby at ho;refine fn λ_ _=>?_;refine run 4 ?_;refine zaj rfl (.n rfl) rfl (e:=.val (zfH zg) none) (λz fr h s=>⟨_,rfl,zc7⟩) ?_;obtain ⟨c4,hc4,ho⟩:=bnd ho;refine run 4 ?_;refine gcx c4 [2,3] [] (λt=>(.normal,λ_=>([(18,vB t)],[]))) ?_ λ_=>?_
 . exact we hc4
 . refine gct ho (λhq8 ho=>?_) λhq8 ho=>?_
   . refine run 2 ?_;refine zaj rfl (.n rfl) rfl (e:=.val (zfH zg) none) (λz fr h s=>⟨_,rfl,zc7⟩) ?_;exact we ho
   . refine run 4 ?_;refine ziy (R:=zg) zBp (.n rfl) rfl rfl rfl (.p (.t rfl) rfl (.z (λ_=>(zy1 znil rfl rfl)) (.z (λ_=>(zy1 znil rfl rfl)) (.n rfl)))) ?_;refine xbo λb9=>?_;refine gcl ho λyb hg ho=>?_;obtain ⟨ta,hd,ho⟩:=bnd ho;refine gl2 hd ho [2,3,6,23] [] [0] (λs g=>([(24,vI s.1)],[(.ptr b9 0,.box [.val (zb zW) l_1.1.1,.val (zb (zj .i64)) l_1.1.2.1,.val (zb (zj .i64)) l_1.1.2.2.1,.val (zb zW) l_1.2.1.1,.val (zb (zj .i64)) l_1.2.1.2.1,.val (zb (zj .i64)) l_1.2.1.2.2.1,vI l_1.2.2.1.1,vI l_1.2.2.1.2.1,vI l_1.2.2.1.2.2.1,vI l_1.2.2.1.2.2.2.1,vI l_1.2.2.1.2.2.2.2.1,vI l_1.2.2.1.2.2.2.2.2.1,vI l_1.2.2.1.2.2.2.2.2.2.1,vI l_1.2.2.1.2.2.2.2.2.2.2.1,vI l_1.2.2.1.2.2.2.2.2.2.2.2.1,.val (zb (zj .i64)) l_1.2.2.1.2.2.2.2.2.2.2.2.2.1,vI l_1.2.2.2.1,vI l_1.2.2.2.2.1,.val (zb (zj .i64)) s.2.1,.val (zb (zj .i64)) s.2.2.1,.val (zb (zj .i64)) s.2.2.2.1,.val (zb (zj .i64)) s.2.2.2.2])])) (λb=>(.exit 0,λg=>([],[(.ptr b9 0,.box [.val (zb zW) l_1.1.1,.val (zb (zj .i64)) l_1.1.2.1,.val (zb (zj .i64)) l_1.1.2.2.1,.val (zb zW) l_1.2.1.1,.val (zb (zj .i64)) l_1.2.1.2.1,.val (zb (zj .i64)) l_1.2.1.2.2.1,vI l_1.2.2.1.1,vI l_1.2.2.1.2.1,vI l_1.2.2.1.2.2.1,vI l_1.2.2.1.2.2.2.1,vI l_1.2.2.1.2.2.2.2.1,vI l_1.2.2.1.2.2.2.2.2.1,vI l_1.2.2.1.2.2.2.2.2.2.1,vI l_1.2.2.1.2.2.2.2.2.2.2.1,vI l_1.2.2.1.2.2.2.2.2.2.2.2.1,.val (zb (zj .i64)) l_1.2.2.1.2.2.2.2.2.2.2.2.2.1,vI l_1.2.2.2.1,vI l_1.2.2.2.2.1,.val (zb (zj .i64)) b.1,.val (zb (zj .i64)) b.2.1,.val (zb (zj .i64)) b.2.2.1,.val (zb (zj .i64)) b.2.2.2])]))) (λb=>(.ret,λg=>([(4,.val (zfH zg) b.1),(5,vB b.2.1)],[]))) [] (λsa gb _ ho=>?_) (λba ho ga=>?_) λbb ho ga=>?_
     . refine gct ho (λhe ho=>?_) λhe ho=>?_
       . obtain ⟨xa,hh,ho⟩:=bnd ho;refine gal λbc=>?_;refine gfz 2 zcx xa 0 [8] ?_;refine gcl ho λya hi ho=>?_;intro va vb;show zr ..;obtain ⟨xb,ha,ho⟩:=bnd ho;refine run 6 ?_;refine zr2 ia' rfl ha (.n rfl) rfl rfl (.t rfl) (.t rfl) ?_;refine ze8 (zfP 0 [37] rfl rfl ⟨rfl,trivial⟩) ?_;refine znw (es':=[.val (zb zW) l_1.1.1,.val (zb (zj .i64)) l_1.1.2.1,.val (zb (zj .i64)) l_1.1.2.2.1,.val (zb zW) l_1.2.1.1,.val (zb (zj .i64)) l_1.2.1.2.1,.val (zb (zj .i64)) l_1.2.1.2.2.1,vI l_1.2.2.1.1,vI l_1.2.2.1.2.1,vI l_1.2.2.1.2.2.1,vI l_1.2.2.1.2.2.2.1,vI l_1.2.2.1.2.2.2.2.1,vI l_1.2.2.1.2.2.2.2.2.1,vI l_1.2.2.1.2.2.2.2.2.2.1,vI l_1.2.2.1.2.2.2.2.2.2.2.1,vI l_1.2.2.1.2.2.2.2.2.2.2.2.1,.val (zb (zj .i64)) l_1.2.2.1.2.2.2.2.2.2.2.2.2.1,vI l_1.2.2.2.1,vI l_1.2.2.2.2.1,.val (zb (zj .i64)) (cond (sa.1==0) ya.1 sa.2.1),.val (zb (zj .i64)) (cond (sa.1==1) ya.1 sa.2.2.1),.val (zb (zj .i64)) sa.2.2.2.1,.val (zb (zj .i64)) sa.2.2.2.2]) 1 (U27).sz rfl (zvI ha (by exact Nat.le_of_ble_eq_true rfl)) (by rcases ix2 ha with e_ | e_<;>rw [e_]<;>rfl) (.n rfl) rfl rfl (.t rfl) (.t rfl) rfl rfl ?_;obtain ⟨xd,hc,ho⟩:=bnd ho;refine run 2 ?_;refine zr2 ia' rfl hc (.n rfl) rfl rfl (.t rfl) (.t rfl) ?_;refine ze8 (zfP 0 [38] rfl rfl ⟨rfl,trivial⟩) ?_;refine znw (es':=[.val (zb zW) l_1.1.1,.val (zb (zj .i64)) l_1.1.2.1,.val (zb (zj .i64)) l_1.1.2.2.1,.val (zb zW) l_1.2.1.1,.val (zb (zj .i64)) l_1.2.1.2.1,.val (zb (zj .i64)) l_1.2.1.2.2.1,vI l_1.2.2.1.1,vI l_1.2.2.1.2.1,vI l_1.2.2.1.2.2.1,vI l_1.2.2.1.2.2.2.1,vI l_1.2.2.1.2.2.2.2.1,vI l_1.2.2.1.2.2.2.2.2.1,vI l_1.2.2.1.2.2.2.2.2.2.1,vI l_1.2.2.1.2.2.2.2.2.2.2.1,vI l_1.2.2.1.2.2.2.2.2.2.2.2.1,.val (zb (zj .i64)) l_1.2.2.1.2.2.2.2.2.2.2.2.2.1,vI l_1.2.2.2.1,vI l_1.2.2.2.2.1,.val (zb (zj .i64)) (cond (sa.1==0) ya.1 sa.2.1),.val (zb (zj .i64)) (cond (sa.1==1) ya.1 sa.2.2.1),.val (zb (zj .i64)) (cond (sa.1==0) ya.2.1 sa.2.2.2.1),.val (zb (zj .i64)) (cond (sa.1==1) ya.2.1 sa.2.2.2.2)]) 0 (U27).sz rfl (zvI hc (by exact Nat.le_of_ble_eq_true rfl)) (by rcases ix2 hc with e_ | e_<;>rw [e_]<;>rfl) (.n rfl) rfl rfl (.t rfl) (.t rfl) rfl rfl ?_
         refine gct ho (λhf ho=>?_) λhf ho=>?_
         . refine run 2 ?_;refine zaj rfl (.n rfl) rfl (e:=.val (zfH zg) none) (λz fr h s=>⟨_,rfl,zc7⟩) ?_;exact we ho
         . exact lv [] [0] ho
       . exact lv [] [0] ho
     . refine run 6 ?_;cases ho;refine znh (ze9 (R:=zg) (a:=(((l_1.1.1,l_1.1.2.1,l_1.1.2.2.1,()),(l_1.2.1.1,l_1.2.1.2.1,l_1.2.1.2.2.1,()),(l_1.2.2.1.1,l_1.2.2.1.2.1,l_1.2.2.1.2.2.1,l_1.2.2.1.2.2.2.1,l_1.2.2.1.2.2.2.2.1,l_1.2.2.1.2.2.2.2.2.1,l_1.2.2.1.2.2.2.2.2.2.1,l_1.2.2.1.2.2.2.2.2.2.2.1,l_1.2.2.1.2.2.2.2.2.2.2.2.1,l_1.2.2.1.2.2.2.2.2.2.2.2.2.1,()),l_1.2.2.2.1,l_1.2.2.2.2.1,()),[ba.1,ba.2.1],[ba.2.2.1,ba.2.2.2],())) 0 [6,49,4] (zq (zq (zq (zt rfl) (zq (zt rfl) (zq (zt rfl) za7 rfl) rfl) rfl) (zq (zq (zt rfl) (zq (zt rfl) (zq (zt rfl) za7 rfl) rfl) rfl) (zq (zq (zt rfl) (zq (zt rfl) (zq (zt rfl) (zq (zt rfl) (zq (zt rfl) (zq (zt rfl) (zq (zt rfl) (zq (zt rfl) (zq (zt rfl) (zq (zt rfl) za7 rfl) rfl) rfl) rfl) rfl) rfl) rfl) rfl) rfl) rfl) (zq (zt rfl) (zq (zt rfl) za7 rfl) rfl) rfl) rfl) rfl) (zq (ziF rfl) (zq (ziF rfl) za7 rfl) rfl) rfl) rfl rfl ⟨rfl,rfl,rfl,trivial⟩) ?_;refine znh (zma (n:=4) rfl) ?_;exact zd0 (zcT (.inr rfl) (.v rfl (.v rfl .n)) (by decide))
     . exact rv ho⟩
instance i55 {home_0}:FI ktab 55 (zbz home_0) [vB home_0] (λout=>[wI out]):=fw
instance i18 {p_0 l_1 home_2}:FI ktab 18 (zaK p_0 l_1 home_2) [.val zaP p_0,.val zav l_1,vB home_2] (λout=>[.val (zb (zj .i64)) out.1,wI out.2]):=⟨λout ho=>by
 delta zaK at ho;refine fn λ_ _=>?_;refine run 4 ?_;refine zdY (.n rfl) rfl rfl (.nil (R:=(zj .i64))) ?_;refine gcl ho λy1 hy1 ho=>?_;refine gct ho (λhq2 ho=>?_) λhq2 ho=>?_
 . refine run 2 ?_;refine zdY (.n rfl) rfl rfl (.nil (R:=(zj .i64))) ?_;exact we ho
 . refine gcl ho λy6 hy6 ho=>?_;obtain ⟨p7,hp7,ho⟩:=bnd ho;refine ze8 (zcW (n:=18) hp7 rfl) ?_;obtain ⟨x8,hx8,ho⟩:=bnd ho;refine run 2 ?_;refine zbT ia' hx8 (.n rfl) rfl rfl (.t rfl) (.t rfl) ?_;exact we ho⟩
instance i81 {r_0 side_1}:FI ktab 81 (zU r_0 side_1) [.val (z5 zg) r_0,vI side_1] (λout=>[wI out]):=⟨λout ho=>by
 delta zU at ho;refine fn λ_ _=>?_;obtain ⟨x4,hx4,ho⟩:=bnd ho;refine run 10 ?_;refine zbT ia' hx4 (.n rfl) rfl rfl (.t rfl) (.t rfl) ?_;obtain ⟨x5,hx5,ho⟩:=bnd ho;refine run 5 ?_;refine zbT ia' hx5 (.n rfl) rfl rfl (.t rfl) (.t rfl) ?_;exact we ho⟩
instance i56 {r_0}:FI ktab 56 (zaL r_0) [.val (z5 zg) r_0] (λout=>[wI out]):=fw
instance i19 {p_0 l_1}:FI ktab 19 (zcy p_0 l_1) [.val zaP p_0,.val zav l_1] (λout=>[wI out.1,wI out.2]):=⟨λout ho=>by
 delta zcy at ho;refine fn λ_ _=>?_;refine gcl ho λy1 hy1 ho=>?_;refine gct ho (λhq2 ho=>?_) λhq2 ho=>?_
 . exact we ho
 . obtain ⟨p3,hp3,ho⟩:=bnd ho;refine run 4 ?_;refine ze8 (zcW (n:=16) hp3 rfl) ?_;exact we ho⟩
instance i58 {r_0 headway_1}:FI ktab 58 (zbl r_0 headway_1) [.val (z5 zg) r_0,vI headway_1] (λout=>[wI out]):=fw
instance i20 {p_0 l_1 headway_2}:FI ktab 20 (zbA p_0 l_1 headway_2) [.val zaP p_0,.val zav l_1,vI headway_2] (λout=>[wI out.1,wI out.2]):=⟨λout ho=>by
 delta zbA at ho;refine fn λ_ _=>?_;refine gcl ho λy1 hy1 ho=>?_;obtain ⟨c4,hc4,ho⟩:=bnd ho;refine run 8 ?_;refine gcx c4 [2,8] [] (λt=>(.normal,λ_=>([(22,vB t)],[]))) ?_ λ_=>?_
 . exact we hc4
 . refine gct ho (λhq7 ho=>?_) λhq7 ho=>?_
   . exact we ho
   . obtain ⟨p8,hp8,ho⟩:=bnd ho;refine run 5 ?_;refine ze8 (zcW (n:=23) hp8 rfl) ?_;exact we ho⟩
instance i45 {length_0}:FI ktab 45 (zcq length_0) [vI length_0] (λout=>[.val zaP out.1,.val zav out.2]):=⟨λout ho=>by
 delta zcq at ho;refine fn λ_ _=>?_;refine gal λb1=>?_;refine gal λb2=>?_;refine gal λb3=>?_;refine gfz 1 zaP (([(((0,0,()),1,[((0,false,()):zl)],0,()):zcb),((((length_0,0,()):Spot),1,[((0,true,()):zl)],0,()):zcb)],[((0,1,[],8000,0,()):Rail)],()):Plan) 0 [4] ?_;refine gal λb4=>?_;refine gfz 1 zbG ((1000,1000,8000,2000,2000,1000000,0,0,0,[1000],()):Train) 0 [5] ?_;obtain ⟨x5,hx5,ho⟩:=bnd ho;refine gal λb6=>?_;refine gfz 1 zcx (([((0,false,()):zM)],[1000,x5,length_0],[0,20,0],()):Course) 0 [6] ?_;refine run 6 ?_;obtain ⟨x7,hx7,ho⟩:=bnd ho;refine gal λb8=>?_;refine gfz 1 zcx (([((0,true,()):zM)],[1000,x7,length_0],[0,10,0],()):Course) 0 [7] ?_;exact we ho⟩
instance i17:FI ktab 17 (zX) [] (λout=>[wB out]):=⟨λout ho=>by
 delta zX at ho;refine fn λ_ _=>?_;refine gcl ho λy1 hy1 ho=>?_;refine gal λb2=>?_;refine gal λb3=>?_;refine gfz 1 zaP y1.1 1 [1] ?_;refine gfz 1 zav y1.2 0 [2] ?_;refine gcl ho λy4 hy4 ho=>?_;intro v5;show zr ..;refine gcl ho λy6 hy6 ho=>?_;refine gcl ho λy7 hy7 ho=>?_;refine gcl ho λy8 hy8 ho=>?_;obtain ⟨ca,ha,ho⟩:=bnd ho;refine run 8 ?_;refine gcx ca [1,2,3,5,7,9] [0] (λt=>(.normal,λ_=>([(80,vB t)],[]))) ?_ λ_=>?_
 . have ho:=ha;refine wbr ho (λhc ho=>?_) λhc ho=>?_
   . exact lv [] [0] ho
   . refine wbr ho (λhd ho=>?_) λhd ho=>?_
     . exact lv [] [0] ho
     . refine wbr ho (λhe ho=>?_) λhe ho=>?_
       . exact lv [] [0] ho
       . refine wbr ho (λhf ho=>?_) λhf ho=>?_
         . exact lv [] [0] ho
         . refine wbr ho (λhg ho=>?_) λhg ho=>?_
           . exact lv [] [0] ho
           . refine wbr ho (λhh ho=>?_) λhh ho=>?_
             . exact lv [] [0] ho
             . exact lv [] [0] ho
 . refine gct ho (λhi ho=>?_) λhi ho=>?_
   . exact we ho
   . refine run 2 ?_;refine zar [2,7] (by kernel_rfl) ?_;obtain ⟨xa,ht,xb,hu,xd,hv,ho⟩:=zvJ ho;obtain ⟨xe,hw,ho⟩:=bnd ho;refine gcl ho λya hy ho=>?_;refine gcl ho λyb hz ho=>?_;obtain ⟨cc,hj,ho⟩:=bnd ho;refine run 7 ?_;refine gcx cc [] [0] (λt=>(.normal,λ_=>([(0,vB t)],[]))) ?_ λ_=>?_
     . have ho:=hj;obtain ⟨xf,hA,ho⟩:=bnd ho;refine wbr ho (λhk ho=>?_) λhk ho=>?_
       . obtain ⟨xg,hB,ho⟩:=bnd ho;refine wbr ho (λhl ho=>?_) λhl ho=>?_
         . obtain ⟨xh,hC,ho⟩:=bnd ho;refine wbr ho (λhm ho=>?_) λhm ho=>?_
           . refine run 26 ?_;obtain ⟨xi,hD,xj,hE,ho⟩:=zhr ho;refine wbr ho (λhn ho=>?_) λhn ho=>?_
             . refine wbr ho (λhp ho=>?_) λhp ho=>?_
               . refine wbr ho (λhr ho=>?_) λhr ho=>?_
                 . refine wbr ho (λhs ho=>?_) λhs ho=>?_
                   . exact lv [] [0] ho
                   . exact lv [] [0] ho
                 . exact lv [] [0] ho
               . exact lv [] [0] ho
             . exact lv [] [0] ho
           . exact lv [] [0] ho
         . exact lv [] [0] ho
       . exact lv [] [0] ho
     . exact rv ho⟩
end Go.Ai.TabYtppebpagcocogaaGreat