/- Written by program: walks through functions. -/
import Derived.Test.YtghlaibcihhbcaaGreatK11
import Derived.Test.YtghlaibcihhbcaaGreatK17
import Derived.Test.YtghlaibcihhbcaaGreatK19
set_option linter.unusedSimpArgs false
set_option linter.unusedVariables false
set_option linter.unusedSectionVars false
namespace Go.Ai.TabYtghlaibcihhbcaaGreat
open Go Go.Ai Go.Ai.Sx Go.Proofs
attribute [local irreducible] zm
set_option maxRecDepth 100000
set_option maxHeartbeats 4000000
instance i190 {r_0 x_1 stop_2}:FI ktab 190 (zbO r_0 x_1 stop_2) [.val (zS zaw) r_0,.val zo x_1,vI stop_2] (λout=>[wB out]):=⟨λout ho=>by
 delta zbO at ho;refine fn λ_ _=>?_;refine gal λb1=>?_;refine gcl ho λy2 hy2 ho=>?_;refine gct ho (λhq3 ho=>?_) λhq3 ho=>?_
 . exact we ho
 . refine gal λb4=>?_;refine run 11 ?_;refine zfx (X:=zb) (Y:=Int) (λx=>[.val zo x]) (λy=>[.val (zh .i64) y]) (f:=(λx=>zaJ r_0 x)) (λx y hf=>i188.ok _ hf) rfl (.n rfl) rfl rfl (.c (.t rfl) .n) .n ?_;obtain ⟨y7,hy7,ho⟩:=bnd ho;refine zvg (zfM hy7) rfl (.n rfl) rfl rfl rfl .f (.c (.t rfl) (.c (.t rfl) (.c (.t rfl) .n))) ?_;intro b8;obtain ⟨ta,ha,ho⟩:=bnd ho;refine run 2 ?_;obtain ⟨ta,t21b⟩:=ta;refine ztb (σ:=(Int×Int)) (τ:=(Int×Int)) (X:=zb) (ins:=(λx=>[.val zo x])) (zza (λs g=>[(.ptr b4 0,.box [vI s.1,vI s.2]),(.ptr b1 0,.box [vB false])]) (λt g=>[(.ptr b4 0,.box [vI t.1,vI t.2]),(.ptr b1 0,.box [vB false])])) (λ_=>none) (s0:=(x_1.1,x_1.2.1)) (r:=ta) [] [1,2] [0] [] rfl (.t rfl) rfl rfl rfl (by decide) (λ_=>rfl) (λyv K hcb γ=>zq2 (zrh (zfh hcb ha b8 γ))) ?_ ?_
   . clear ho ha;intro sa ga x9 r22 ho C;refine gal λba=>?_;refine gfz 1 zo x9 0 [8] ?_;refine zfH (λfr h s=>And.intro rfl (Exists.intro _ (Exists.intro _ (And.intro s (λC=>?_)))));refine gcl ho λya hd ho=>?_;refine gct ho (λhc ho=>?_) λhc ho=>?_
     . refine run 4 ?_;cases ho; exact zea (λfr h s=>And.intro rfl (Exists.intro [] (s.pick [0,1] trivial rfl (by decide))))
     . refine run 4 ?_;cases ho; exact zfH (λfr h s=>And.intro rfl (Exists.intro [] (s.pick [0,1] trivial rfl (by decide))))
   . clear ha;rcases ta with bb | bc
     . have ho:=zw4 ho;intro gb;refine gwk [0,1,2,3,4,5,6,7,9,10,11,12,13,14,15,16,17,18,19,20,21] [0,1] ?_;exact we ho
     . have ho:=zw5 ho;intro gc;refine gwk [0,1,2,3,4,5,6,7,9,10,11,12,13,14,15,16,17,18,19,20,21] [0,1] ?_;exact rv ho⟩
instance i176 {r_0 x_1 stop_2}:FI ktab 176 (zaO r_0 x_1 stop_2) [.val (zS zaw) r_0,.val zo x_1,vI stop_2] (λout=>[.val zaN out.1,wB out.2]):=⟨λout ho=>by
 delta zaO at ho;refine fn λ_ _=>?_;refine gal λb1=>?_;refine run 2 ?_;refine zn5 (by exact zlT) ?_;refine gcl ho λy2 hy2 ho=>?_;refine gal λb3=>?_;obtain ⟨ta,ha,ho⟩:=bnd ho;refine glp ha [0,2,4,6,8,9] [1] [0,1] (λs g=>([(10,vB s.1),(17,vI s.2.1)],[(.ptr b3 0,.box [vI s.2.2.1,vI s.2.2.2.1,vI s.2.2.2.2.1,vI s.2.2.2.2.2.1,vI s.2.2.2.2.2.2.1,vI s.2.2.2.2.2.2.2.1,vI s.2.2.2.2.2.2.2.2.1,vI s.2.2.2.2.2.2.2.2.2.1,vI s.2.2.2.2.2.2.2.2.2.2.1,vI s.2.2.2.2.2.2.2.2.2.2.2])])) (λb=>(.exit 0,λg=>([(10,vB b.1)],[(.ptr b3 0,.box [vI b.2.1,vI b.2.2.1,vI b.2.2.2.1,vI b.2.2.2.2.1,vI b.2.2.2.2.2.1,vI b.2.2.2.2.2.2.1,vI b.2.2.2.2.2.2.2.1,vI b.2.2.2.2.2.2.2.2.1,vI b.2.2.2.2.2.2.2.2.2.1,vI b.2.2.2.2.2.2.2.2.2.2])]))) [] (λsa ga _ ho=>?_) λgb=>?_
 . refine gct ho (λhc ho=>?_) λhc ho=>?_
   . refine gcl ho λya hf ho=>?_;refine gal λba=>?_;refine gfz 1 zaN ya.1 0 [12] ?_;refine wbr ho (λhd ho=>?_) λhd ho=>?_
     . refine gcl ho λyb hg ho=>?_;refine gct ho (λhe ho=>?_) λhe ho=>?_
       . exact lv [] [0,1] ho
       . exact lv [] [0,1] ho
     . refine gk ?_;exact lv [] [0,1] ho
   . exact lv [] [0,1] ho
 . refine glb ((ta.2.1,ta.2.2.1,()),(ta.2.2.2.1,ta.2.2.2.2.1,ta.2.2.2.2.2.1,ta.2.2.2.2.2.2.1,ta.2.2.2.2.2.2.2.1,ta.2.2.2.2.2.2.2.2.1,()),ta.2.2.2.2.2.2.2.2.2.1,ta.2.2.2.2.2.2.2.2.2.2,()) 0 ?_;exact we ho⟩
instance i177 {l_0}:FI ktab 177 (zcH l_0) [.val (zd zw) l_0] (λout=>[.val zw out]):=⟨λout ho=>by
 delta zcH at ho;refine fn λ_ _=>?_;refine gal λb1=>?_;refine gal λb2=>?_;obtain ⟨ta,ha,ho⟩:=bnd ho;refine glp ha [2,3,6,7] [1] [0,1] (λs g=>([(8,vI s.1)],[(.ptr b2 0,.box [vI s.2.1,vI s.2.2.1,vI s.2.2.2.1,vI s.2.2.2.2.1,vI s.2.2.2.2.2.1,vI s.2.2.2.2.2.2])])) (λb=>(.exit 0,λg=>([],[(.ptr b2 0,.box [vI b.1,vI b.2.1,vI b.2.2.1,vI b.2.2.2.1,vI b.2.2.2.2.1,vI b.2.2.2.2.2])]))) [] (λs9 ga _ ho=>?_) λgb=>?_
 . refine gct ho (λhc ho=>?_) λhc ho=>?_
   . obtain ⟨xa,hd,ho⟩:=bnd ho;refine gal λba=>?_;refine gfz 1 zw xa 0 [5] ?_;exact lv [] [0,1] ho
   . exact lv [] [0,1] ho
 . refine glb (ta.1,ta.2.1,ta.2.2.1,ta.2.2.2.1,ta.2.2.2.2.1,ta.2.2.2.2.2,()) 0 ?_;exact we ho⟩
instance i163 {r_0 x_1 stop_2}:FI ktab 163 (zaA r_0 x_1 stop_2) [.val (zS zaw) r_0,.val zo x_1,vI stop_2] (λout=>[.val zgn out.1,.val zo out.2.1,wB out.2.2]):=⟨λout ho=>by
 delta zaA at ho;refine fn λ_ _=>?_;refine run 2 ?_;refine xbo λb1=>?_;refine gal λb2=>?_;refine gal λb3=>?_;refine gal λb4=>?_;obtain ⟨ta,ha,ho⟩:=bnd ho;refine glp ha [0,2,4,6,7,9] [] [0,1,2,3] (λs g=>([(10,vI s.1)],[(.ptr b4 0,.box [vI s.2.1,vI s.2.2.1,vI s.2.2.2.1,vI s.2.2.2.2.1,vI s.2.2.2.2.2.1,vI s.2.2.2.2.2.2.1,vI s.2.2.2.2.2.2.2.1,vI s.2.2.2.2.2.2.2.2.1,vI s.2.2.2.2.2.2.2.2.2.1,vI s.2.2.2.2.2.2.2.2.2.2.1]),(.ptr b3 0,.box [vI s.2.2.2.2.2.2.2.2.2.2.2.1,vI s.2.2.2.2.2.2.2.2.2.2.2.2.1]),(.ptr b2 0,.box [vI s.2.2.2.2.2.2.2.2.2.2.2.2.2.2.2.2.1,vI s.2.2.2.2.2.2.2.2.2.2.2.2.2.1,vI s.2.2.2.2.2.2.2.2.2.2.2.2.2.2.2.2.2.1,vI s.2.2.2.2.2.2.2.2.2.2.2.2.2.2.2.2.2.2.1,vI s.2.2.2.2.2.2.2.2.2.2.2.2.2.2.2.2.2.2.2.1,vI s.2.2.2.2.2.2.2.2.2.2.2.2.2.2.2.2.2.2.2.2.1,vI s.2.2.2.2.2.2.2.2.2.2.2.2.2.2.2.2.2.2.2.2.2.1,vI s.2.2.2.2.2.2.2.2.2.2.2.2.2.2.2.2.2.2.2.2.2.2.1,vI s.2.2.2.2.2.2.2.2.2.2.2.2.2.2.2.2.2.2.2.2.2.2.2.1,vI s.2.2.2.2.2.2.2.2.2.2.2.2.2.2.2.2.2.2.2.2.2.2.2.2]),(.ptr b1 0,.box [vI s.2.2.2.2.2.2.2.2.2.2.2.2.2.2.1,vI s.2.2.2.2.2.2.2.2.2.2.2.2.2.2.2.1])])) (λb=>(.ret,λg=>([(8,vB b.1)],[(.ptr b3 0,.box [vI b.2.2.1,vI b.2.2.2.1]),(.ptr b2 0,.box [vI b.2.2.2.2.1,vI b.2.2.2.2.2.1,vI b.2.2.2.2.2.2.1,vI b.2.2.2.2.2.2.2.1,vI b.2.2.2.2.2.2.2.2.1,vI b.2.2.2.2.2.2.2.2.2.1,vI b.2.2.2.2.2.2.2.2.2.2.1,vI b.2.2.2.2.2.2.2.2.2.2.2.1,vI b.2.2.2.2.2.2.2.2.2.2.2.2.1,vI b.2.2.2.2.2.2.2.2.2.2.2.2.2.1])]))) [] (λsa ga _ ho=>?_) λgb=>?_
 . refine run 4 ?_;refine zao [4] (by kernel_rfl) ?_;refine glb (sa.2.2.2.2.2.2.2.2.2.2.2.2.2.2.1,sa.2.2.2.2.2.2.2.2.2.2.2.2.2.2.2.1,()) 3 ?_;refine gcl ho λyc hk ho=>?_;refine wbr ho (λhc ho=>?_) λhc ho=>?_
   . refine gcl ho λyf hl ho=>?_;refine gct ho (λhd ho=>?_) λhd ho=>?_
     . refine run 7 ?_;refine zao [0,1,1000004,1000006,1000007,1000009] (by kernel_rfl) ?_ (hdi:=rdists rfl (rowns rfl) (.c (.o (j:=3) rfl rfl) (.c (.o (j:=2) rfl rfl) (.c (.o (j:=1) rfl rfl) (.c (.o (j:=0) rfl rfl) .n)))) rfl);refine glb (sa.2.1,yc,(sa.2.2.2.1,sa.2.2.2.2.1,sa.2.2.2.2.2.1,sa.2.2.2.2.2.2.1,sa.2.2.2.2.2.2.2.1,sa.2.2.2.2.2.2.2.2.1,()),sa.2.2.2.2.2.2.2.2.2.1,sa.2.2.2.2.2.2.2.2.2.2.1,()) 0 ?_;refine glb (sa.2.2.2.2.2.2.2.2.2.2.2.2.2.2.1,sa.2.2.2.2.2.2.2.2.2.2.2.2.2.2.2.1,()) 3 ?_;exact lv [] [1,2] ho
     . refine gct ho (λhe ho=>?_) λhe ho=>?_
       . refine run 1 ?_;refine zao [0,1,1000004,1000006,1000007,1000009] (by kernel_rfl) ?_ (hdi:=rdists rfl (rowns rfl) (.c (.o (j:=3) rfl rfl) (.c (.o (j:=2) rfl rfl) (.c (.o (j:=1) rfl rfl) (.c (.o (j:=0) rfl rfl) .n)))) rfl);refine glb (sa.2.1,sa.2.2.1,(sa.2.2.2.1,sa.2.2.2.2.1,sa.2.2.2.2.2.1,sa.2.2.2.2.2.2.1,sa.2.2.2.2.2.2.2.1,sa.2.2.2.2.2.2.2.2.1,()),sa.2.2.2.2.2.2.2.2.2.1,sa.2.2.2.2.2.2.2.2.2.2.1,()) 0 ?_;refine glb (sa.2.2.2.2.2.2.2.2.2.2.2.2.2.2.1,sa.2.2.2.2.2.2.2.2.2.2.2.2.2.2.2.1,()) 3 ?_;exact lv [] [1,2] ho
       . refine glb (sa.2.2.2.2.2.2.2.2.2.2.2.2.2.2.1,sa.2.2.2.2.2.2.2.2.2.2.2.2.2.2.2.1,()) 3 ?_;refine gcl ho λyd hm ho=>?_;refine gal λba=>?_;refine gfz 1 zaN yd.1 0 [12] ?_;refine wbr ho (λhf ho=>?_) λhf ho=>?_
         . refine gk ?_;refine run 1 ?_;refine zao [0,1,1000004,1000006,1000007,1000009] (by kernel_rfl) ?_ (hdi:=rdists rfl (rowns rfl) (.c (.o (j:=3) rfl rfl) (.c (.o (j:=2) rfl rfl) (.c (.o (j:=1) rfl rfl) (.c (.o (j:=0) rfl rfl) .n)))) rfl);refine glb (sa.2.1,sa.2.2.1,(sa.2.2.2.1,sa.2.2.2.2.1,sa.2.2.2.2.2.1,sa.2.2.2.2.2.2.1,sa.2.2.2.2.2.2.2.1,sa.2.2.2.2.2.2.2.2.1,()),sa.2.2.2.2.2.2.2.2.2.1,sa.2.2.2.2.2.2.2.2.2.2.1,()) 0 ?_;refine glb (sa.2.2.2.2.2.2.2.2.2.2.2.2.2.2.1,sa.2.2.2.2.2.2.2.2.2.2.2.2.2.2.2.1,()) 3 ?_;exact lv [] [1,2] ho
         . refine gct ho (λhg ho=>?_) λhg ho=>?_
           . refine run 1 ?_;refine zao [0,1,1000004,1000006,1000007,1000009] (by kernel_rfl) ?_ (hdi:=rdists rfl (rowns rfl) (.c (.o (j:=3) rfl rfl) (.c (.o (j:=2) rfl rfl) (.c (.o (j:=1) rfl rfl) (.c (.o (j:=0) rfl rfl) .n)))) rfl);refine glb (sa.2.1,sa.2.2.1,(sa.2.2.2.1,sa.2.2.2.2.1,sa.2.2.2.2.2.1,sa.2.2.2.2.2.2.1,sa.2.2.2.2.2.2.2.1,sa.2.2.2.2.2.2.2.2.1,()),sa.2.2.2.2.2.2.2.2.2.1,sa.2.2.2.2.2.2.2.2.2.2.1,()) 0 ?_;refine glb (sa.2.2.2.2.2.2.2.2.2.2.2.2.2.2.1,sa.2.2.2.2.2.2.2.2.2.2.2.2.2.2.2.1,()) 3 ?_;exact lv [] [1,2] ho
           . refine run 18 ?_;refine zjq (R:=zw) (a:=(sa.2.2.2.1,sa.2.2.2.2.1,sa.2.2.2.2.2.1,sa.2.2.2.2.2.2.1,sa.2.2.2.2.2.2.2.1,sa.2.2.2.2.2.2.2.2.1,())) (off:=2) 0 (λ_ h=>by cases h<;>rfl) iu' zbu (by exact Nat.le_of_ble_eq_true rfl) (.n rfl) rfl rfl (.t rfl) rfl ?_;refine gcl ho λya hn ho=>?_;refine run 1 ?_;refine zf8 (off:=2) (es':=[vI ya.1,vI ya.2.1,vI ya.2.2.1,vI ya.2.2.2.1,vI ya.2.2.2.2.1,vI ya.2.2.2.2.2.1]) 0 iu' rfl zbu (by exact Nat.le_of_ble_eq_true rfl) (.n rfl) rfl rfl (.t rfl) (.t rfl) (by rfl) ?_;refine run 1 ?_;refine zao [1,6] (by kernel_rfl) ?_;exact lv [] [0,1,2,3] ho
   . refine gk ?_;refine gct ho (λhh ho=>?_) λhh ho=>?_
     . refine run 1 ?_;refine zao [0,1,1000004,1000006,1000007,1000009] (by kernel_rfl) ?_ (hdi:=rdists rfl (rowns rfl) (.c (.o (j:=3) rfl rfl) (.c (.o (j:=2) rfl rfl) (.c (.o (j:=1) rfl rfl) (.c (.o (j:=0) rfl rfl) .n)))) rfl);refine glb (sa.2.1,sa.2.2.1,(sa.2.2.2.1,sa.2.2.2.2.1,sa.2.2.2.2.2.1,sa.2.2.2.2.2.2.1,sa.2.2.2.2.2.2.2.1,sa.2.2.2.2.2.2.2.2.1,()),sa.2.2.2.2.2.2.2.2.2.1,sa.2.2.2.2.2.2.2.2.2.2.1,()) 0 ?_;refine glb (sa.2.2.2.2.2.2.2.2.2.2.2.2.2.2.1,sa.2.2.2.2.2.2.2.2.2.2.2.2.2.2.2.1,()) 3 ?_;exact lv [] [1,2] ho
     . refine glb (sa.2.2.2.2.2.2.2.2.2.2.2.2.2.2.1,sa.2.2.2.2.2.2.2.2.2.2.2.2.2.2.2.1,()) 3 ?_;refine gcl ho λye hp ho=>?_;refine gal λbb=>?_;refine gfz 1 zaN ye.1 0 [12] ?_;refine wbr ho (λhi ho=>?_) λhi ho=>?_
       . refine gk ?_;refine run 1 ?_;refine zao [0,1,1000004,1000006,1000007,1000009] (by kernel_rfl) ?_ (hdi:=rdists rfl (rowns rfl) (.c (.o (j:=3) rfl rfl) (.c (.o (j:=2) rfl rfl) (.c (.o (j:=1) rfl rfl) (.c (.o (j:=0) rfl rfl) .n)))) rfl);refine glb (sa.2.1,sa.2.2.1,(sa.2.2.2.1,sa.2.2.2.2.1,sa.2.2.2.2.2.1,sa.2.2.2.2.2.2.1,sa.2.2.2.2.2.2.2.1,sa.2.2.2.2.2.2.2.2.1,()),sa.2.2.2.2.2.2.2.2.2.1,sa.2.2.2.2.2.2.2.2.2.2.1,()) 0 ?_;refine glb (sa.2.2.2.2.2.2.2.2.2.2.2.2.2.2.1,sa.2.2.2.2.2.2.2.2.2.2.2.2.2.2.2.1,()) 3 ?_;exact lv [] [1,2] ho
       . refine gct ho (λhj ho=>?_) λhj ho=>?_
         . refine run 1 ?_;refine zao [0,1,1000004,1000006,1000007,1000009] (by kernel_rfl) ?_ (hdi:=rdists rfl (rowns rfl) (.c (.o (j:=3) rfl rfl) (.c (.o (j:=2) rfl rfl) (.c (.o (j:=1) rfl rfl) (.c (.o (j:=0) rfl rfl) .n)))) rfl);refine glb (sa.2.1,sa.2.2.1,(sa.2.2.2.1,sa.2.2.2.2.1,sa.2.2.2.2.2.1,sa.2.2.2.2.2.2.1,sa.2.2.2.2.2.2.2.1,sa.2.2.2.2.2.2.2.2.1,()),sa.2.2.2.2.2.2.2.2.2.1,sa.2.2.2.2.2.2.2.2.2.2.1,()) 0 ?_;refine glb (sa.2.2.2.2.2.2.2.2.2.2.2.2.2.2.1,sa.2.2.2.2.2.2.2.2.2.2.2.2.2.2.2.1,()) 3 ?_;exact lv [] [1,2] ho
         . refine run 18 ?_;refine zjq (R:=zw) (a:=(sa.2.2.2.1,sa.2.2.2.2.1,sa.2.2.2.2.2.1,sa.2.2.2.2.2.2.1,sa.2.2.2.2.2.2.2.1,sa.2.2.2.2.2.2.2.2.1,())) (off:=2) 0 (λ_ h=>by cases h<;>rfl) iu' zbu (by exact Nat.le_of_ble_eq_true rfl) (.n rfl) rfl rfl (.t rfl) rfl ?_;refine gcl ho λyb hr ho=>?_;refine run 1 ?_;refine zf8 (off:=2) (es':=[vI yb.1,vI yb.2.1,vI yb.2.2.1,vI yb.2.2.2.1,vI yb.2.2.2.2.1,vI yb.2.2.2.2.2.1]) 0 iu' rfl zbu (by exact Nat.le_of_ble_eq_true rfl) (.n rfl) rfl rfl (.t rfl) (.t rfl) (by rfl) ?_;refine run 1 ?_;refine zao [1,6] (by kernel_rfl) ?_;exact lv [] [0,1,2,3] ho
 . exact rv ho⟩
instance i140 {p_0 way_1 t_2 state_3 stops_4}:FI ktab 140 (zbM p_0 way_1 t_2 state_3 stops_4) [.val zbJ p_0,.val (zd z5) way_1,.val zbG t_2,vI state_3,.val (zd (zh .i64)) stops_4] (λout=>[.row zgn out.1,wI out.2]):=⟨λout ho=>by
 delta zbM at ho;refine fn λ_ _=>?_;refine gnr zgn ?_;refine gcl ho λy1 hy1 ho=>?_;refine gct ho (λhq2 ho=>?_) λhq2 ho=>?_
 . refine gnr zgn ?_;exact we ho
 . obtain ⟨x5,hx5,ho⟩:=bnd ho;refine gal λb6=>?_;refine gnr zgn ?_;obtain ⟨x7,hx7,ta,ha,ho⟩:=zfI ho;refine gl2 ha ho [12,14,41,42] [] [1,0] (λs g=>([(15,.raw (gh g 0)),(43,vI s.2.1)],[(.ptr b6 0,.box [vI s.2.2.1,vI s.2.2.2]),((gh g 0),.row zgn s.1)])) (λb=>(.exit 0,λg=>([(15,.raw (gh g 0))],[((gh g 0),.row zgn b.1)]))) (λb=>(.ret,λg=>([(10,.raw (gh g 0)),(11,vI b.2.1)],[((gh g 0),.row zgn b.1)]))) [.nilslice] (λsa ga _ ho=>?_) (λba ho gb=>?_) λbb ho gb=>?_
   . refine gct ho (λhc ho=>?_) λhc ho=>?_
     . obtain ⟨xa,hg,ho⟩:=bnd ho;refine glb (sa.2.2.1,sa.2.2.2,()) 0 ?_;obtain ⟨pa,hd,ho⟩:=bnd ho;refine run 1 ?_;refine zeM (zct (n:=48) hd rfl) ?_;refine gcl ho λya hh ho=>?_;refine gal λbc=>?_;refine gal λbd=>?_;refine gfz 1 zgn ya.1 1 [18] ?_;refine gfz 1 zo ya.2.1 0 [19] ?_;refine wbr ho (λhe ho=>?_) λhe ho=>?_
       . refine gk ?_;refine gnr zgn ?_;exact lv [.nilslice] [0] ho
       . refine gct ho (λhf ho=>?_) λhf ho=>?_
         . refine gnr zgn ?_;exact lv [.nilslice] [0] ho
         . obtain ⟨xb,hi,ho⟩:=bnd ho;refine gap λva=>?_;exact lv [va] [1,0] ho
     . exact lv [(gh ga 0)] [1] ho
   . exact we ho
   . exact rv ho⟩
instance i141 {l_0 field_1}:FI ktab 141 (zaP l_0 field_1) [.val (zd zgn) l_0,.val (rFn ktab (Leg) (Int) (λx=>[.val zgn (x)]) (λy=>[.val (zh .i64) (y)])) field_1] (λout=>[.row (zh .i64) out]):=⟨λout ho=>by
 delta zaP at ho;refine fn λ_ _=>?_;refine gnr (zh .i64) ?_;refine gnr (zh .i64) ?_;obtain ⟨ta,ha,ho⟩:=bnd ho;refine glp ha [1,8,9] [] [0] (λs g=>([(5,.raw (gh g 0)),(10,vI s.2)],[((gh g 0),.row (zh .i64) s.1)])) (λb=>(.exit 0,λg=>([(5,.raw (gh g 0))],[((gh g 0),.row (zh .i64) b)]))) [.nilslice] (λs7 g8 _ ho=>?_) λga=>?_
 . refine gct ho (λhq9 ho=>?_) λhq9 ho=>?_
   . obtain ⟨xa,hd,ho⟩:=bnd ho;refine gal λba=>?_;refine gfz 1 zgn xa 0 [7] ?_;obtain ⟨ya,hc,ho⟩:=bnd ho;refine gcv hc ?_;obtain ⟨xb,he,ho⟩:=bnd ho;refine gap λva=>?_;exact lv [va] [0] ho
   . exact lv [(gh g8 0)] [0] ho
 . exact we ho⟩
instance i142 {x_0}:FI ktab 142 (zeE x_0) [.val zgn x_0] (λout=>[wI out]):=fw
instance i112 {p_0 way_1 t_2 state_3 stops_4}:FI ktab 112 (zcI p_0 way_1 t_2 state_3 stops_4) [.val zbJ p_0,.val (zd z5) way_1,.val zbG t_2,vI state_3,.val (zd (zh .i64)) stops_4] (λout=>[.row (zh .i64) out.1,wI out.2]):=⟨λout ho=>by
 delta zcI at ho;refine fn λ_ _=>?_;refine gnr (zh .i64) ?_;refine gcl ho λy1 hy1 ho=>?_;intro v2;show zm ..;refine gct ho (λhq3 ho=>?_) λhq3 ho=>?_
 . refine gnr (zh .i64) ?_;exact we ho
 . obtain ⟨y4,hy4,ho⟩:=bnd ho;refine run 4 ?_;refine zgZ (i141.ok _ hy4) (.r zie .n) rfl (.n rfl) rfl rfl rfl .f (.c (.r 0 (.t rfl) rfl) (.c (.o (.fv (zgJ (λx y hf=>i142.ok _ hf) rfl))) .n)) ?_;intro v5;exact we ho⟩
instance i73 {p_0 l_1 c_2}:FI ktab 73 (za7 p_0 l_1 c_2) [.val zbJ p_0,.val ze3 l_1,.val zcU c_2] (λout=>[.row (zh .i64) out.1,.row (zh .i64) out.2.1,wB out.2.2]):=⟨λout ho=>by
 delta za7 at ho;refine fn λ_ _=>?_;refine gnr (zh .i64) ?_;refine gnr (zh .i64) ?_;refine gcl ho λy1 hy1 ho=>?_;obtain ⟨c9,hc9,ho⟩:=bnd ho;refine run 8 ?_;refine gcx c9 [3,4,5,9,10] [0,1] (λt=>(.normal,λ_=>([(58,vB t)],[]))) ?_ λ_=>?_
 . have ho:=hc9;refine wbr ho (λha ho=>?_) λha ho=>?_
   . exact lv [] [0,1] ho
   . refine gcl ho λyb hu ho=>?_;refine wbr ho (λhc ho=>?_) λhc ho=>?_
     . exact lv [] [0,1] ho
     . refine wbr ho (λhd ho=>?_) λhd ho=>?_
       . exact lv [] [0,1] ho
       . obtain ⟨xa,hv,ho⟩:=bnd ho;refine wbr ho (λhe ho=>?_) λhe ho=>?_
         . exact lv [] [0,1] ho
         . obtain ⟨xb,hw,ho⟩:=bnd ho;exact lv [] [0,1] ho
 . refine gct ho (λhf ho=>?_) λhf ho=>?_
   . refine gnr (zh .i64) ?_;refine gnr (zh .i64) ?_;refine run 2 ?_;cases ho; exact zea (zcZ (.inr rfl) (.r 1 rfl rfl (.r 0 rfl rfl (.v rfl .n))) (by decide))
   . obtain ⟨ta,hg,ho⟩:=bnd ho;refine gl2 hg ho [3,4,5,9,10,60,61] [] [] (λs g=>([(62,vI s)],[])) (λb=>(.exit 0,λg=>([],[]))) (λb=>(.ret,λg=>([(6,.raw (gh g 0)),(7,.raw (gh g 1)),(8,vB b.2.2)],[((gh g 0),.row (zh .i64) b.1),((gh g 1),.row (zh .i64) b.2.1)]))) [] (λsa gb _ ho=>?_) (λba ho ga=>?_) λbb ho ga=>?_
     . refine gct ho (λhh ho=>?_) λhh ho=>?_
       . obtain ⟨xd,hy,ho⟩:=bnd ho;refine gcl ho λyc hz ho=>?_;refine wbr ho (λhi ho=>?_) λhi ho=>?_
         . refine gk ?_;refine gnr (zh .i64) ?_;refine gnr (zh .i64) ?_;exact lv [.nilslice,.nilslice] [1,0] ho
         . refine wbr ho (λhj ho=>?_) λhj ho=>?_
           . obtain ⟨xe,hA,ho⟩:=bnd ho;refine wbr ho (λhk ho=>?_) λhk ho=>?_
             . refine gk ?_;refine gnr (zh .i64) ?_;refine gnr (zh .i64) ?_;exact lv [.nilslice,.nilslice] [1,0] ho
             . obtain ⟨xf,hB,ho⟩:=bnd ho;refine gcl ho λyd hC ho=>?_;refine gct ho (λhl ho=>?_) λhl ho=>?_
               . refine gnr (zh .i64) ?_;refine gnr (zh .i64) ?_;exact lv [.nilslice,.nilslice] [1,0] ho
               . exact we ho
           . obtain ⟨xg,hD,ho⟩:=bnd ho;refine gcl ho λye hE ho=>?_;refine gct ho (λhm ho=>?_) λhm ho=>?_
             . refine gnr (zh .i64) ?_;refine gnr (zh .i64) ?_;exact lv [.nilslice,.nilslice] [1,0] ho
             . exact we ho
       . exact lv [] [] ho
     . refine gcl ho λya hF ho=>?_;intro vc;show zm ..;obtain ⟨ca,hn,ho⟩:=bnd ho;refine run 8 ?_;refine gcx ca [5,9,14] [0] (λt=>(.normal,λ_=>([(116,vB t)],[]))) ?_ λ_=>?_
       . have ho:=hn;refine wbr ho (λhp ho=>?_) λhp ho=>?_
         . exact lv [] [0] ho
         . exact lv [] [0] ho
       . refine gct ho (λhr ho=>?_) λhr ho=>?_
         . refine gnr (zh .i64) ?_;refine gnr (zh .i64) ?_;refine run 2 ?_;cases ho; exact zea (zcZ (.inr rfl) (.r 1 rfl rfl (.r 0 rfl rfl (.v rfl .n))) (by decide))
         . obtain ⟨xh,hG,ho⟩:=bnd ho;refine gmk λva=>?_;refine run 1 ?_;obtain ⟨xi,hH,ho⟩:=bnd ho;refine gmk λvb=>?_;obtain ⟨tb,hs,ho⟩:=bnd ho;refine glp hs [5,9,15,16,121,122] [] [0,1,2] (λs g=>([(123,vI s.1)],[(vb,.row (zh .i64) s.2.1),(va,.row (zh .i64) s.2.2),(vc,.row (zh .i64) ya.1)])) (λb=>(.exit 2,λg=>([],[(vb,.row (zh .i64) b.1),(va,.row (zh .i64) b.2)]))) [] (λsb gc _ ho=>?_) λgd=>?_
           . refine gct ho (λht ho=>?_) λht ho=>?_
             . obtain ⟨xj,hI,xk,hJ,xl,hK,ho⟩:=zpQ ho;refine run 23 ?_;refine zao [6,11] (by kernel_rfl) ?_;obtain ⟨xm,hL,xn,hM,xo,hN,ho⟩:=zpQ ho;obtain ⟨xp,hO,ho⟩:=bnd ho;exact lv [] [0,1,2] ho
             . exact lv [] [0,1] ho
           . refine run 1 ?_;refine zao [6] (by kernel_rfl) ?_;obtain ⟨xq,hP,ho⟩:=bnd ho;refine run 12 ?_;cases ho; exact zea (zcZ (.inr rfl) (.r 1 rfl rfl (.r 0 rfl rfl (.v rfl .n))) (by decide))
     . cases ho; exact id (zcZ (.inr rfl) (.r 0 rfl rfl (.r 1 rfl rfl (.v rfl .n))) (by decide))⟩
end Go.Ai.TabYtghlaibcihhbcaaGreat