/- Written by program: walks through functions. -/
import Derived.Test.YtnngmijajnldlaaGreatX11
import Derived.Test.YtnngmijajnldlaaGreatX20
import Derived.Test.YtnngmijajnldlaaGreatX22
set_option linter.unusedSimpArgs false
set_option linter.unusedVariables false
set_option linter.unusedSectionVars false
open Option renaming none→Oe
open Bool renaming false→Oc
namespace Go.Ai.TabYtnngmijajnldlaaGreat
open Go Go.Ai Go.Ai.Sx Go.Proofs
attribute [local irreducible] zm
set_option maxRecDepth 100000
set_option maxHeartbeats 4000000
instance i148 {b a stop_2}:FI ktab 148 (zcb b a stop_2) [.val (zL zaH) b,.val zM a,vI stop_2] (λout=>[wB out]):=⟨λout ho=>by
 delta zcb at ho;refine fn λ_ _=>?_;refine gal λb1=>?_;refine gcl ho λy2 hy2 ho=>?_;refine gct ho (λhq3 ho=>?_) λhq3 ho=>?_
 . exact we ho
 . refine gal λb4=>?_;refine run 11 ?_;refine zeB (X:=ze) (Y:=Int) (λx=>[.val zM x]) (λy=>[.val (zh .i64) y]) (f:=(λx=>zaS b x)) (λx y hf=>i146.ok _ hf) rfl (.n rfl) rfl rfl (.c (.t rfl) .n) .n ?_;obtain ⟨y7,hy7,ho⟩:=bnd ho;refine zxd (zfR hy7) rfl (.n rfl) rfl rfl rfl .f (.c (.t rfl) (.c (.t rfl) (.c (.t rfl) .n))) ?_;intro b8;obtain ⟨ta,ha,ho⟩:=bnd ho;refine run 2 ?_;obtain ⟨ta,t21b⟩:=ta;refine zuO (σ:=(Int×Int)) (τ:=(Int×Int)) (X:=ze) (ins:=(λx=>[.val zM x])) (zBp (λs g=>[(.ptr b4 0,.box [vI s.1,vI s.2]),(.ptr b1 0,.box [vB Oc])]) (λt g=>[(.ptr b4 0,.box [vI t.1,vI t.2]),(.ptr b1 0,.box [vB Oc])])) (λ_=>Oe) (s0:=(a.1,a.2.1)) (r:=ta) [] [1,2] [0] [] rfl (.t rfl) rfl rfl rfl Oa (λ_=>rfl) (λyv K hcb γ=>zoS (zss (zfs hcb ha b8 γ))) ?_ ?_
   . clear ho ha;intro sa ga x9 r22 ho C;refine gal λba=>?_;refine gfz 1 zM x9 0 [8] ?_;refine zdD (λfr h s=>And.intro rfl (Exists.intro _ (Exists.intro _ (And.intro s (λC=>?_)))));refine gcl ho λya hd ho=>?_;refine gct ho (λhc ho=>?_) λhc ho=>?_
     . refine run 4 ?_;cases ho; exact zdR (λfr h s=>And.intro rfl (Exists.intro [] (s.pick [0,1] trivial rfl Oa)))
     . refine run 4 ?_;cases ho; exact zdD (λfr h s=>And.intro rfl (Exists.intro [] (s.pick [0,1] trivial rfl Oa)))
   . clear ha;rcases ta with bb | bc
     . have ho:=zwY ho;intro gb;refine gwk [0,1,2,3,4,5,6,7,9,10,11,12,13,14,15,16,17,18,19,20,21] [0,1] ?_;exact we ho
     . have ho:=zwZ ho;intro gc;refine gwk [0,1,2,3,4,5,6,7,9,10,11,12,13,14,15,16,17,18,19,20,21] [0,1] ?_;exact rv ho⟩
instance i135 {c a stop_2}:FI ktab 135 (zaZ c a stop_2) [.val (zL zaH) c,.val zM a,vI stop_2] (λout=>[.val zaX out.1,wB out.2]):=⟨λout ho=>by
 delta zaZ at ho;refine fn λ_ _=>?_;refine gal λb1=>?_;refine run 2 ?_;refine zoM (by exact zmC) ?_;refine gcl ho λy2 hy2 ho=>?_;refine gal λb3=>?_;obtain ⟨ta,ha,ho⟩:=bnd ho;refine glp ha [0,2,4,6,8,9] [1] [0,1] (λs g=>([(10,vB s.1),(17,vI s.2.1)],[(.ptr b3 0,.box [vI s.2.2.1,vI s.d3.1,vI s.d4.1,vI s.d5.1,vI s.d6.1,vI s.d7.1,vI s.d8.1,vI s.d9.1,vI s.d9.2.1,vI s.d9.2.2])])) (λb=>(.exit 0,λg=>([(10,vB b.1)],[(.ptr b3 0,.box [vI b.2.1,vI b.2.2.1,vI b.d3.1,vI b.d4.1,vI b.d5.1,vI b.d6.1,vI b.d7.1,vI b.d8.1,vI b.d9.1,vI b.d9.2])]))) [] (λsa ga _ ho=>?_) λgb=>?_
 . refine gct ho (λhc ho=>?_) λhc ho=>?_
   . refine gcl ho λya hf ho=>?_;refine gal λba=>?_;refine gfz 1 zaX ya.1 0 [12] ?_;refine wbr ho (λhd ho=>?_) λhd ho=>?_
     . refine gcl ho λyb hg ho=>?_;refine gct ho (λhe ho=>?_) λhe ho=>?_
       . exact lv [] [0,1] ho
       . exact lv [] [0,1] ho
     . refine gk ?_;exact lv [] [0,1] ho
   . exact lv [] [0,1] ho
 . refine glb ((ta.2.1,ta.2.2.1,()),(ta.d3.1,ta.d4.1,ta.d5.1,ta.d6.1,ta.d7.1,ta.d8.1,()),ta.d9.1,ta.d9.2,()) 0 ?_;exact we ho⟩
instance i136 {l_0}:FI ktab 136 (zc6 l_0) [.val (zb zag) l_0] (λout=>[.val zag out]):=⟨λout ho=>by
 delta zc6 at ho;refine fn λ_ _=>?_;refine gal λb1=>?_;refine gal λb2=>?_;obtain ⟨ta,ha,ho⟩:=bnd ho;refine glp ha [2,3,6,7] [1] [0,1] (λs g=>([(8,vI s.1)],[(.ptr b2 0,.box [vI s.2.1,vI s.2.2.1,vI s.d3.1,vI s.d4.1,vI s.d5.1,vI s.d6])])) (λb=>(.exit 0,λg=>([],[(.ptr b2 0,.box [vI b.1,vI b.2.1,vI b.2.2.1,vI b.d3.1,vI b.d4.1,vI b.d5])]))) [] (λs9 ga _ ho=>?_) λgb=>?_
 . refine gct ho (λhc ho=>?_) λhc ho=>?_
   . obtain ⟨xa,hd,ho⟩:=bnd ho;refine gal λba=>?_;refine gfz 1 zag xa 0 [5] ?_;exact lv [] [0,1] ho
   . exact lv [] [0,1] ho
 . refine glb (ta.1,ta.2.1,ta.2.2.1,ta.d3.1,ta.d4.1,ta.d5,()) 0 ?_;exact we ho⟩
instance i124 {e d stop_2}:FI ktab 124 (zaL e d stop_2) [.val (zL zaH) e,.val zM d,vI stop_2] (λout=>[.val zkE out.1,.val zM out.2.1,wB out.2.2]):=⟨λout ho=>by
 delta zaL at ho;refine fn λ_ _=>?_;refine run 2 ?_;refine xbo λb1=>?_;refine gal λb2=>?_;refine gal λb3=>?_;refine gal λb4=>?_;obtain ⟨ta,ha,ho⟩:=bnd ho;refine glp ha [0,2,4,6,7,9] [] [0,1,2,3] (λs g=>([(10,vI s.1)],[(.ptr b4 0,.box [vI s.2.1,vI s.2.2.1,vI s.d3.1,vI s.d4.1,vI s.d5.1,vI s.d6.1,vI s.d7.1,vI s.d8.1,vI s.d9.1,vI s.d9.2.1]),(.ptr b3 0,.box [vI s.d9.2.2.1,vI s.d9.d3.1]),(.ptr b2 0,.box [vI s.d9.d7.1,vI s.d9.d4.1,vI s.d9.d8.1,vI s.d9.d9.1,vI s.d9.d9.2.1,vI s.d9.d9.2.2.1,vI s.d9.d9.d3.1,vI s.d9.d9.d4.1,vI s.d9.d9.d5.1,vI s.d9.d9.d6]),(.ptr b1 0,.box [vI s.d9.d5.1,vI s.d9.d6.1])])) (λb=>(.ret,λg=>([(8,vB b.1)],[(.ptr b3 0,.box [vI b.2.2.1,vI b.d3.1]),(.ptr b2 0,.box [vI b.d4.1,vI b.d5.1,vI b.d6.1,vI b.d7.1,vI b.d8.1,vI b.d9.1,vI b.d9.2.1,vI b.d9.2.2.1,vI b.d9.d3.1,vI b.d9.d4.1])]))) [] (λsa ga _ ho=>?_) λgb=>?_
 . refine run 4 ?_;refine zaK [4] Z ?_;refine glb (sa.d9.d5.1,sa.d9.d6.1,()) 3 ?_;refine gcl ho λyc hk ho=>?_;refine wbr ho (λhc ho=>?_) λhc ho=>?_
   . refine gcl ho λyf hl ho=>?_;refine gct ho (λhd ho=>?_) λhd ho=>?_
     . refine run 7 ?_;refine zaK [0,1,1000004,1000006,1000007,1000009] Z ?_ (hdi:=rdists rfl (rowns rfl) (.c (.o (j:=3) rfl rfl) (.c (.o (j:=2) rfl rfl) (.c (.o (j:=1) rfl rfl) (.c (.o (j:=0) rfl rfl) .n)))) rfl);refine glb (sa.2.1,yc,(sa.d3.1,sa.d4.1,sa.d5.1,sa.d6.1,sa.d7.1,sa.d8.1,()),sa.d9.1,sa.d9.2.1,()) 0 ?_;refine glb (sa.d9.d5.1,sa.d9.d6.1,()) 3 ?_;exact lv [] [1,2] ho
     . refine gct ho (λhe ho=>?_) λhe ho=>?_
       . refine run 1 ?_;refine zaK [0,1,1000004,1000006,1000007,1000009] Z ?_ (hdi:=rdists rfl (rowns rfl) (.c (.o (j:=3) rfl rfl) (.c (.o (j:=2) rfl rfl) (.c (.o (j:=1) rfl rfl) (.c (.o (j:=0) rfl rfl) .n)))) rfl);refine glb (sa.2.1,sa.2.2.1,(sa.d3.1,sa.d4.1,sa.d5.1,sa.d6.1,sa.d7.1,sa.d8.1,()),sa.d9.1,sa.d9.2.1,()) 0 ?_;refine glb (sa.d9.d5.1,sa.d9.d6.1,()) 3 ?_;exact lv [] [1,2] ho
       . refine glb (sa.d9.d5.1,sa.d9.d6.1,()) 3 ?_;refine gcl ho λyd hm ho=>?_;refine gal λba=>?_;refine gfz 1 zaX yd.1 0 [12] ?_;refine wbr ho (λhf ho=>?_) λhf ho=>?_
         . refine gk ?_;refine run 1 ?_;refine zaK [0,1,1000004,1000006,1000007,1000009] Z ?_ (hdi:=rdists rfl (rowns rfl) (.c (.o (j:=3) rfl rfl) (.c (.o (j:=2) rfl rfl) (.c (.o (j:=1) rfl rfl) (.c (.o (j:=0) rfl rfl) .n)))) rfl);refine glb (sa.2.1,sa.2.2.1,(sa.d3.1,sa.d4.1,sa.d5.1,sa.d6.1,sa.d7.1,sa.d8.1,()),sa.d9.1,sa.d9.2.1,()) 0 ?_;refine glb (sa.d9.d5.1,sa.d9.d6.1,()) 3 ?_;exact lv [] [1,2] ho
         . refine gct ho (λhg ho=>?_) λhg ho=>?_
           . refine run 1 ?_;refine zaK [0,1,1000004,1000006,1000007,1000009] Z ?_ (hdi:=rdists rfl (rowns rfl) (.c (.o (j:=3) rfl rfl) (.c (.o (j:=2) rfl rfl) (.c (.o (j:=1) rfl rfl) (.c (.o (j:=0) rfl rfl) .n)))) rfl);refine glb (sa.2.1,sa.2.2.1,(sa.d3.1,sa.d4.1,sa.d5.1,sa.d6.1,sa.d7.1,sa.d8.1,()),sa.d9.1,sa.d9.2.1,()) 0 ?_;refine glb (sa.d9.d5.1,sa.d9.d6.1,()) 3 ?_;exact lv [] [1,2] ho
           . refine run 18 ?_;refine zpz (R:=zag) (a:=(sa.d3.1,sa.d4.1,sa.d5.1,sa.d6.1,sa.d7.1,sa.d8.1,())) (off:=2) 0 (λ_ h=>by cases h<;>rfl) iu' zet Og (.n rfl) rfl rfl (.t rfl) rfl ?_;refine gcl ho λya hn ho=>?_;refine run 1 ?_;refine zis (off:=2) (es':=[vI ya.1,vI ya.2.1,vI ya.2.2.1,vI ya.d3.1,vI ya.d4.1,vI ya.d5.1]) 0 iu' rfl zet Og (.n rfl) rfl rfl (.t rfl) (.t rfl) Om ?_;refine run 1 ?_;refine zaK [1,6] Z ?_;exact lv [] [0,1,2,3] ho
   . refine gk ?_;refine gct ho (λhh ho=>?_) λhh ho=>?_
     . refine run 1 ?_;refine zaK [0,1,1000004,1000006,1000007,1000009] Z ?_ (hdi:=rdists rfl (rowns rfl) (.c (.o (j:=3) rfl rfl) (.c (.o (j:=2) rfl rfl) (.c (.o (j:=1) rfl rfl) (.c (.o (j:=0) rfl rfl) .n)))) rfl);refine glb (sa.2.1,sa.2.2.1,(sa.d3.1,sa.d4.1,sa.d5.1,sa.d6.1,sa.d7.1,sa.d8.1,()),sa.d9.1,sa.d9.2.1,()) 0 ?_;refine glb (sa.d9.d5.1,sa.d9.d6.1,()) 3 ?_;exact lv [] [1,2] ho
     . refine glb (sa.d9.d5.1,sa.d9.d6.1,()) 3 ?_;refine gcl ho λye hp ho=>?_;refine gal λbb=>?_;refine gfz 1 zaX ye.1 0 [12] ?_;refine wbr ho (λhi ho=>?_) λhi ho=>?_
       . refine gk ?_;refine run 1 ?_;refine zaK [0,1,1000004,1000006,1000007,1000009] Z ?_ (hdi:=rdists rfl (rowns rfl) (.c (.o (j:=3) rfl rfl) (.c (.o (j:=2) rfl rfl) (.c (.o (j:=1) rfl rfl) (.c (.o (j:=0) rfl rfl) .n)))) rfl);refine glb (sa.2.1,sa.2.2.1,(sa.d3.1,sa.d4.1,sa.d5.1,sa.d6.1,sa.d7.1,sa.d8.1,()),sa.d9.1,sa.d9.2.1,()) 0 ?_;refine glb (sa.d9.d5.1,sa.d9.d6.1,()) 3 ?_;exact lv [] [1,2] ho
       . refine gct ho (λhj ho=>?_) λhj ho=>?_
         . refine run 1 ?_;refine zaK [0,1,1000004,1000006,1000007,1000009] Z ?_ (hdi:=rdists rfl (rowns rfl) (.c (.o (j:=3) rfl rfl) (.c (.o (j:=2) rfl rfl) (.c (.o (j:=1) rfl rfl) (.c (.o (j:=0) rfl rfl) .n)))) rfl);refine glb (sa.2.1,sa.2.2.1,(sa.d3.1,sa.d4.1,sa.d5.1,sa.d6.1,sa.d7.1,sa.d8.1,()),sa.d9.1,sa.d9.2.1,()) 0 ?_;refine glb (sa.d9.d5.1,sa.d9.d6.1,()) 3 ?_;exact lv [] [1,2] ho
         . refine run 18 ?_;refine zpz (R:=zag) (a:=(sa.d3.1,sa.d4.1,sa.d5.1,sa.d6.1,sa.d7.1,sa.d8.1,())) (off:=2) 0 (λ_ h=>by cases h<;>rfl) iu' zet Og (.n rfl) rfl rfl (.t rfl) rfl ?_;refine gcl ho λyb hr ho=>?_;refine run 1 ?_;refine zis (off:=2) (es':=[vI yb.1,vI yb.2.1,vI yb.2.2.1,vI yb.d3.1,vI yb.d4.1,vI yb.d5.1]) 0 iu' rfl zet Og (.n rfl) rfl rfl (.t rfl) (.t rfl) Om ?_;refine run 1 ?_;refine zaK [1,6] Z ?_;exact lv [] [0,1,2,3] ho
 . exact rv ho⟩
instance i113 {d c e a stops_4}:FI ktab 113 (zb4 d c e a stops_4) [.val zdS d,.val (zb zam) c,.val zdT e,vI a,.val (zb (zh .i64)) stops_4] (λout=>[.row zkE out.1,wI out.2]):=⟨λout ho=>by
 delta zb4 at ho;refine fn λ_ _=>?_;refine gnr zkE ?_;refine gcl ho λy1 hy1 ho=>?_;refine gct ho (λhq2 ho=>?_) λhq2 ho=>?_
 . refine gnr zkE ?_;exact we ho
 . obtain ⟨x5,hx5,ho⟩:=bnd ho;refine gal λb6=>?_;refine gnr zkE ?_;obtain ⟨x7,hx7,ta,ha,ho⟩:=zff ho;refine gl2 ha ho [12,14,41,42] [] [1,0] (λs g=>([(15,.raw (gh g 0)),(43,vI s.2.1)],[(.ptr b6 0,.box [vI s.2.2.1,vI s.d3]),(gh g 0,.row zkE s.1)])) (λb=>(.exit 0,λg=>([(15,.raw (gh g 0))],[(gh g 0,.row zkE b.1)]))) (λb=>(.ret,λg=>([(10,.raw (gh g 0)),(11,vI b.2.1)],[(gh g 0,.row zkE b.1)]))) [.nsz] (λsa ga _ ho=>?_) (λba ho gb=>?_) λbb ho gb=>?_
   . refine gct ho (λhc ho=>?_) λhc ho=>?_
     . obtain ⟨xa,hg,ho⟩:=bnd ho;refine glb (sa.2.2.1,sa.d3,()) 0 ?_;obtain ⟨pa,hd,ho⟩:=bnd ho;refine run 1 ?_;refine zdh (zcr (n:=48) hd rfl) ?_;refine gcl ho λya hh ho=>?_;refine gal λbc=>?_;refine gal λbd=>?_;refine gfz 1 zkE ya.1 1 [18] ?_;refine gfz 1 zM ya.2.1 0 [19] ?_;refine wbr ho (λhe ho=>?_) λhe ho=>?_
       . refine gk ?_;refine gnr zkE ?_;exact lv [.nsz] [0] ho
       . refine gct ho (λhf ho=>?_) λhf ho=>?_
         . refine gnr zkE ?_;exact lv [.nsz] [0] ho
         . obtain ⟨xb,hi,ho⟩:=bnd ho;refine gap λva=>?_;exact lv [va] [1,0] ho
     . exact lv [gh ga 0] [1] ho
   . exact we ho
   . exact rv ho⟩
instance i114 {a field_1}:FI ktab 114 (za0 a field_1) [.val (zb zkE) a,.val (rFn ktab Leg Int (λx=>[.val zkE x]) (λy=>[.val (zh .i64) y])) field_1] (λout=>[.row (zh .i64) out]):=⟨λout ho=>by
 delta za0 at ho;refine fn λ_ _=>?_;refine gnr (zh .i64) ?_;refine gnr (zh .i64) ?_;obtain ⟨ta,ha,ho⟩:=bnd ho;refine glp ha [1,8,9] [] [0] (λs g=>([(5,.raw (gh g 0)),(10,vI s.2)],[(gh g 0,.row (zh .i64) s.1)])) (λb=>(.exit 0,λg=>([(5,.raw (gh g 0))],[(gh g 0,.row (zh .i64) b)]))) [.nsz] (λs7 g8 _ ho=>?_) λga=>?_
 . refine gct ho (λhq9 ho=>?_) λhq9 ho=>?_
   . obtain ⟨xa,hd,ho⟩:=bnd ho;refine gal λba=>?_;refine gfz 1 zkE xa 0 [7] ?_;obtain ⟨ya,hc,ho⟩:=bnd ho;refine gcv hc ?_;obtain ⟨xb,he,ho⟩:=bnd ho;refine gap λva=>?_;exact lv [va] [0] ho
   . exact lv [gh g8 0] [0] ho
 . exact we ho⟩
instance i115 {x_0}:FI ktab 115 (zeR x_0) [.val zkE x_0] (λout=>[wI out]):=fw
instance i90 {d b e a stops_4}:FI ktab 90 (zc7 d b e a stops_4) [.val zdS d,.val (zb zam) b,.val zdT e,vI a,.val (zb (zh .i64)) stops_4] (λout=>[.row (zh .i64) out.1,wI out.2]):=⟨λout ho=>by
 delta zc7 at ho;refine fn λ_ _=>?_;refine gnr (zh .i64) ?_;refine gcl ho λy1 hy1 ho=>?_;intro v2;show zm ..;refine gct ho (λhq3 ho=>?_) λhq3 ho=>?_
 . refine gnr (zh .i64) ?_;exact we ho
 . obtain ⟨y4,hy4,ho⟩:=bnd ho;refine run 4 ?_;refine zfF (i114.ok _ hy4) (.r zc9 .n) rfl (.n rfl) rfl rfl rfl .f (.c (.r 0 (.t rfl) rfl) (.c (.o (.fv (zge (λx y hf=>i115.ok _ hf) rfl))) .n)) ?_;intro v5;exact we ho⟩
instance i54 {c a c_2}:FI ktab 54 (zbr c a c_2) [.val zdS c,.val zfN a,.val zd6 c_2] (λout=>[.row (zh .i64) out.1,.row (zh .i64) out.2.1,wB out.2.2]):=⟨λout ho=>by
 delta zbr at ho;refine fn λ_ _=>?_;refine gnr (zh .i64) ?_;refine gnr (zh .i64) ?_;refine gcl ho λy1 hy1 ho=>?_;obtain ⟨c9,hc9,ho⟩:=bnd ho;refine run 8 ?_;refine gcx c9 [3,4,5,9,10] [0,1] (λt=>(.normal,λ_=>([(58,vB t)],[]))) ?_ λ_=>?_
 . have ho:=hc9;refine wbr ho (λha ho=>?_) λha ho=>?_
   . exact lv [] [0,1] ho
   . refine gcl ho λyb hu ho=>?_;refine wbr ho (λhc ho=>?_) λhc ho=>?_
     . exact lv [] [0,1] ho
     . refine wbr ho (λhd ho=>?_) λhd ho=>?_
       . exact lv [] [0,1] ho
       . obtain ⟨xa,hv,ho⟩:=bnd ho;refine wbr ho (λhe ho=>?_) λhe ho=>?_
         . exact lv [] [0,1] ho
         . obtain ⟨xb,hw,ho⟩:=bnd ho;exact lv [] [0,1] ho
 . refine gct ho (λhf ho=>?_) λhf ho=>?_
   . refine gnr (zh .i64) ?_;refine gnr (zh .i64) ?_;refine run 2 ?_;cases ho; exact zdR (zdd (.inr rfl) (.r 1 rfl rfl (.r 0 rfl rfl (.v rfl .n))) Oa)
   . obtain ⟨ta,hg,ho⟩:=bnd ho;refine gl2 hg ho [3,4,5,9,10,60,61] [] [] (λs g=>([(62,vI s)],[])) (λb=>(.exit 0,λg=>([],[]))) (λb=>(.ret,λg=>([(6,.raw (gh g 0)),(7,.raw (gh g 1)),(8,vB b.2.2)],[(gh g 0,.row (zh .i64) b.1),(gh g 1,.row (zh .i64) b.2.1)]))) [] (λsa gb _ ho=>?_) (λba ho ga=>?_) λbb ho ga=>?_
     . refine gct ho (λhh ho=>?_) λhh ho=>?_
       . obtain ⟨xd,hy,ho⟩:=bnd ho;refine gcl ho λyc hz ho=>?_;refine wbr ho (λhi ho=>?_) λhi ho=>?_
         . refine gk ?_;refine gnr (zh .i64) ?_;refine gnr (zh .i64) ?_;exact lv [.nsz,.nsz] [1,0] ho
         . refine wbr ho (λhj ho=>?_) λhj ho=>?_
           . obtain ⟨xe,hA,ho⟩:=bnd ho;refine wbr ho (λhk ho=>?_) λhk ho=>?_
             . refine gk ?_;refine gnr (zh .i64) ?_;refine gnr (zh .i64) ?_;exact lv [.nsz,.nsz] [1,0] ho
             . obtain ⟨xf,hB,ho⟩:=bnd ho;refine gcl ho λyd hC ho=>?_;refine gct ho (λhl ho=>?_) λhl ho=>?_
               . refine gnr (zh .i64) ?_;refine gnr (zh .i64) ?_;exact lv [.nsz,.nsz] [1,0] ho
               . exact we ho
           . obtain ⟨xg,hD,ho⟩:=bnd ho;refine gcl ho λye hE ho=>?_;refine gct ho (λhm ho=>?_) λhm ho=>?_
             . refine gnr (zh .i64) ?_;refine gnr (zh .i64) ?_;exact lv [.nsz,.nsz] [1,0] ho
             . exact we ho
       . exact lv [] [] ho
     . refine gcl ho λya hF ho=>?_;intro vc;show zm ..;obtain ⟨ca,hn,ho⟩:=bnd ho;refine run 8 ?_;refine gcx ca [5,9,14] [0] (λt=>(.normal,λ_=>([(116,vB t)],[]))) ?_ λ_=>?_
       . have ho:=hn;refine wbr ho (λhp ho=>?_) λhp ho=>?_
         . exact lv [] [0] ho
         . exact lv [] [0] ho
       . refine gct ho (λhr ho=>?_) λhr ho=>?_
         . refine gnr (zh .i64) ?_;refine gnr (zh .i64) ?_;refine run 2 ?_;cases ho; exact zdR (zdd (.inr rfl) (.r 1 rfl rfl (.r 0 rfl rfl (.v rfl .n))) Oa)
         . obtain ⟨xh,hG,ho⟩:=bnd ho;refine gmk λva=>?_;refine run 1 ?_;obtain ⟨xi,hH,ho⟩:=bnd ho;refine gmk λvb=>?_;obtain ⟨tb,hs,ho⟩:=bnd ho;refine glp hs [5,9,15,16,121,122] [] [0,1,2] (λs g=>([(123,vI s.1)],[(vb,.row (zh .i64) s.2.1),(va,.row (zh .i64) s.2.2),(vc,.row (zh .i64) ya.1)])) (λb=>(.exit 2,λg=>([],[(vb,.row (zh .i64) b.1),(va,.row (zh .i64) b.2)]))) [] (λsb gc _ ho=>?_) λgd=>?_
           . refine gct ho (λht ho=>?_) λht ho=>?_
             . obtain ⟨xj,hI,xk,hJ,xl,hK,ho⟩:=zok ho;refine run 23 ?_;refine zaK [6,11] Z ?_;obtain ⟨xm,hL,xn,hM,xo,hN,ho⟩:=zok ho;obtain ⟨xp,hO,ho⟩:=bnd ho;exact lv [] [0,1,2] ho
             . exact lv [] [0,1] ho
           . refine run 1 ?_;refine zaK [6] Z ?_;obtain ⟨xq,hP,ho⟩:=bnd ho;refine run 12 ?_;cases ho; exact zdR (zdd (.inr rfl) (.r 1 rfl rfl (.r 0 rfl rfl (.v rfl .n))) Oa)
     . cases ho; exact id (zdd (.inr rfl) (.r 0 rfl rfl (.r 1 rfl rfl (.v rfl .n))) Oa)⟩
end Go.Ai.TabYtnngmijajnldlaaGreat