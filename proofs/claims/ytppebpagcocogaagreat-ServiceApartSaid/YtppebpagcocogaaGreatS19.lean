/- Written by program: walks through functions. -/
import Derived.Test.YtppebpagcocogaaGreatS11
import Derived.Test.YtppebpagcocogaaGreatS17
import Derived.Test.YtppebpagcocogaaGreatS18
set_option linter.unusedSimpArgs false
set_option linter.unusedVariables false
set_option linter.unusedSectionVars false
namespace Go.Ai.TabYtppebpagcocogaaGreat
open Go Go.Ai Go.Ai.Sx Go.Proofs
attribute [local irreducible] zq
set_option maxRecDepth 100000
set_option maxHeartbeats 4000000
instance i174 {r_0 x_1 stop_2}:FI ktab 174 (zce r_0 x_1 stop_2) [.val (zaQ zaD) r_0,.val zr x_1,vI stop_2] (fun out=>[wB out]):=⟨fun out ho=>by
 delta zce at ho;refine fn fun _ _=>?_;refine gal fun b1=>?_;refine gcl ho fun y2 hy2 ho=>?_;refine gct ho (fun hq3 ho=>?_) fun hq3 ho=>?_
 ·exact we ho
 ·refine gal fun b4=>?_;refine run 11 ?_;refine zgM (X:=zb) (Y:=Int) (fun x=>[.val zr x]) (fun y=>[.val (zj .i64) y]) (f:=(fun x=>zaO r_0 x)) (fun x y hf=>i172.ok _ hf) rfl (.n rfl) rfl rfl (.c (.t rfl) .n) .n ?_;obtain ⟨y7,hy7,ho⟩:=bnd ho;refine zwA (zfK hy7) rfl (.n rfl) rfl rfl rfl .f (.c (.t rfl) (.c (.t rfl) (.c (.t rfl) .n))) ?_;intro b8;obtain ⟨ta,ha,ho⟩:=bnd ho;refine run 2 ?_;obtain ⟨ta,t21b⟩:=ta;refine zui (σ:=(Int×Int)) (τ:=(Int×Int)) (X:=zb) (ins:=(fun x=>[.val zr x])) (zzX (fun s g=>[(.ptr b4 0,.box [vI s.1,vI s.2]),(.ptr b1 0,.box [vB false])]) (fun t g=>[(.ptr b4 0,.box [vI t.1,vI t.2]),(.ptr b1 0,.box [vB false])])) (fun _=>none) (s0:=(x_1.1,x_1.2.1)) (r:=ta) [] [1,2] [0] [] rfl (.t rfl) rfl rfl rfl (by decide) (fun _=>rfl) (fun yv K hcb γ=>zoy (zrS (zfd hcb ha b8 γ))) ?_ ?_
  ·clear ho ha;intro sa ga x9 r22 ho C;refine gal fun ba=>?_;refine gfz 1 zr x9 0 [8] ?_;refine zix (fun fr h s=>And.intro rfl (Exists.intro _ (Exists.intro _ (And.intro s (fun C=>?_)))));refine gcl ho fun ya hd ho=>?_;refine gct ho (fun hc ho=>?_) fun hc ho=>?_
   ·refine run 4 ?_;cases ho; exact zfx (fun fr h s=>And.intro rfl (Exists.intro [] (s.pick [0,1] trivial rfl (by decide))))
   ·refine run 4 ?_;cases ho; exact zix (fun fr h s=>And.intro rfl (Exists.intro [] (s.pick [0,1] trivial rfl (by decide))))
  ·clear ha;rcases ta with bb | bc
   ·have ho:=zwm ho;intro gb;refine gwk [0,1,2,3,4,5,6,7,9,10,11,12,13,14,15,16,17,18,19,20,21] [0,1] ?_;exact we ho
   ·have ho:=zwn ho;intro gc;refine gwk [0,1,2,3,4,5,6,7,9,10,11,12,13,14,15,16,17,18,19,20,21] [0,1] ?_;exact rv ho⟩
instance i145 {r_0 x_1 stop_2}:FI ktab 145 (zaS r_0 x_1 stop_2) [.val (zaQ zaD) r_0,.val zr x_1,vI stop_2] (fun out=>[.val zaR out.1,wB out.2]):=⟨fun out ho=>by
 delta zaS at ho;refine fn fun _ _=>?_;refine gal fun b1=>?_;refine run 2 ?_;refine zwk (by exact zt0) ?_;refine gcl ho fun y2 hy2 ho=>?_;refine gal fun b3=>?_;obtain ⟨ta,ha,ho⟩:=bnd ho;refine glp ha [0,2,4,6,8,9] [1] [0,1] (fun s g=>([(10,vB s.1),(17,vI s.2.1)],[(.ptr b3 0,.box [vI s.2.2.1,vI s.2.2.2.1,vI s.2.2.2.2.1,vI s.2.2.2.2.2.1,vI s.2.2.2.2.2.2.1,vI s.2.2.2.2.2.2.2.1,vI s.2.2.2.2.2.2.2.2.1,vI s.2.2.2.2.2.2.2.2.2.1,vI s.2.2.2.2.2.2.2.2.2.2.1,vI s.2.2.2.2.2.2.2.2.2.2.2])])) (fun b=>(.exit 0,fun g=>([(10,vB b.1)],[(.ptr b3 0,.box [vI b.2.1,vI b.2.2.1,vI b.2.2.2.1,vI b.2.2.2.2.1,vI b.2.2.2.2.2.1,vI b.2.2.2.2.2.2.1,vI b.2.2.2.2.2.2.2.1,vI b.2.2.2.2.2.2.2.2.1,vI b.2.2.2.2.2.2.2.2.2.1,vI b.2.2.2.2.2.2.2.2.2.2])]))) [] (fun sa ga _ ho=>?_) fun gb=>?_
 ·refine gct ho (fun hc ho=>?_) fun hc ho=>?_
  ·refine gcl ho fun ya hf ho=>?_;refine gal fun ba=>?_;refine gfz 1 zaR ya.1 0 [12] ?_;refine wbr ho (fun hd ho=>?_) fun hd ho=>?_
   ·refine gcl ho fun yb hg ho=>?_;refine gct ho (fun he ho=>?_) fun he ho=>?_
    ·exact lv [] [0,1] ho
    ·exact lv [] [0,1] ho
   ·refine gk ?_;exact lv [] [0,1] ho
  ·exact lv [] [0,1] ho
 ·refine glb ((ta.2.1,ta.2.2.1,()),(ta.2.2.2.1,ta.2.2.2.2.1,ta.2.2.2.2.2.1,ta.2.2.2.2.2.2.1,ta.2.2.2.2.2.2.2.1,ta.2.2.2.2.2.2.2.2.1,()),ta.2.2.2.2.2.2.2.2.2.1,ta.2.2.2.2.2.2.2.2.2.2,()) 0 ?_;exact we ho⟩
instance i146 {l_0}:FI ktab 146 (zcV l_0) [.val (zf zw) l_0] (fun out=>[.val zw out]):=⟨fun out ho=>by
 delta zcV at ho;refine fn fun _ _=>?_;refine gal fun b1=>?_;refine gal fun b2=>?_;obtain ⟨ta,ha,ho⟩:=bnd ho;refine glp ha [2,3,6,7] [1] [0,1] (fun s g=>([(8,vI s.1)],[(.ptr b2 0,.box [vI s.2.1,vI s.2.2.1,vI s.2.2.2.1,vI s.2.2.2.2.1,vI s.2.2.2.2.2.1,vI s.2.2.2.2.2.2])])) (fun b=>(.exit 0,fun g=>([],[(.ptr b2 0,.box [vI b.1,vI b.2.1,vI b.2.2.1,vI b.2.2.2.1,vI b.2.2.2.2.1,vI b.2.2.2.2.2])]))) [] (fun s9 ga _ ho=>?_) fun gb=>?_
 ·refine gct ho (fun hc ho=>?_) fun hc ho=>?_
  ·obtain ⟨xa,hd,ho⟩:=bnd ho;refine gal fun ba=>?_;refine gfz 1 zw xa 0 [5] ?_;exact lv [] [0,1] ho
  ·exact lv [] [0,1] ho
 ·refine glb (ta.1,ta.2.1,ta.2.2.1,ta.2.2.2.1,ta.2.2.2.2.1,ta.2.2.2.2.2,()) 0 ?_;exact we ho⟩
instance i122 {r_0 x_1 stop_2}:FI ktab 122 (zbt r_0 x_1 stop_2) [.val (zaQ zaD) r_0,.val zr x_1,vI stop_2] (fun out=>[.val zge out.1,.val zr out.2.1,wB out.2.2]):=⟨fun out ho=>by
 delta zbt at ho;refine fn fun _ _=>?_;refine run 2 ?_;refine xbo fun b1=>?_;refine gal fun b2=>?_;refine gal fun b3=>?_;refine gal fun b4=>?_;obtain ⟨ta,ha,ho⟩:=bnd ho;refine glp ha [0,2,4,6,7,9] [] [0,1,2,3] (fun s g=>([(10,vI s.1)],[(.ptr b4 0,.box [vI s.2.1,vI s.2.2.1,vI s.2.2.2.1,vI s.2.2.2.2.1,vI s.2.2.2.2.2.1,vI s.2.2.2.2.2.2.1,vI s.2.2.2.2.2.2.2.1,vI s.2.2.2.2.2.2.2.2.1,vI s.2.2.2.2.2.2.2.2.2.1,vI s.2.2.2.2.2.2.2.2.2.2.1]),(.ptr b3 0,.box [vI s.2.2.2.2.2.2.2.2.2.2.2.1,vI s.2.2.2.2.2.2.2.2.2.2.2.2.1]),(.ptr b2 0,.box [vI s.2.2.2.2.2.2.2.2.2.2.2.2.2.2.2.2.1,vI s.2.2.2.2.2.2.2.2.2.2.2.2.2.1,vI s.2.2.2.2.2.2.2.2.2.2.2.2.2.2.2.2.2.1,vI s.2.2.2.2.2.2.2.2.2.2.2.2.2.2.2.2.2.2.1,vI s.2.2.2.2.2.2.2.2.2.2.2.2.2.2.2.2.2.2.2.1,vI s.2.2.2.2.2.2.2.2.2.2.2.2.2.2.2.2.2.2.2.2.1,vI s.2.2.2.2.2.2.2.2.2.2.2.2.2.2.2.2.2.2.2.2.2.1,vI s.2.2.2.2.2.2.2.2.2.2.2.2.2.2.2.2.2.2.2.2.2.2.1,vI s.2.2.2.2.2.2.2.2.2.2.2.2.2.2.2.2.2.2.2.2.2.2.2.1,vI s.2.2.2.2.2.2.2.2.2.2.2.2.2.2.2.2.2.2.2.2.2.2.2.2]),(.ptr b1 0,.box [vI s.2.2.2.2.2.2.2.2.2.2.2.2.2.2.1,vI s.2.2.2.2.2.2.2.2.2.2.2.2.2.2.2.1])])) (fun b=>(.ret,fun g=>([(8,vB b.1)],[(.ptr b3 0,.box [vI b.2.2.1,vI b.2.2.2.1]),(.ptr b2 0,.box [vI b.2.2.2.2.1,vI b.2.2.2.2.2.1,vI b.2.2.2.2.2.2.1,vI b.2.2.2.2.2.2.2.1,vI b.2.2.2.2.2.2.2.2.1,vI b.2.2.2.2.2.2.2.2.2.1,vI b.2.2.2.2.2.2.2.2.2.2.1,vI b.2.2.2.2.2.2.2.2.2.2.2.1,vI b.2.2.2.2.2.2.2.2.2.2.2.2.1,vI b.2.2.2.2.2.2.2.2.2.2.2.2.2.1])]))) [] (fun sa ga _ ho=>?_) fun gb=>?_
 ·refine run 4 ?_;refine zaN [4] (by kernel_rfl) ?_;refine glb (sa.2.2.2.2.2.2.2.2.2.2.2.2.2.2.1,sa.2.2.2.2.2.2.2.2.2.2.2.2.2.2.2.1,()) 3 ?_;refine gcl ho fun yc hk ho=>?_;refine wbr ho (fun hc ho=>?_) fun hc ho=>?_
  ·refine gcl ho fun yf hl ho=>?_;refine gct ho (fun hd ho=>?_) fun hd ho=>?_
   ·refine run 7 ?_;refine zaN [0,1,1000004,1000006,1000007,1000009] (by kernel_rfl) ?_ (hdi:=rdists rfl (rowns rfl) (.c (.o (j:=3) rfl rfl) (.c (.o (j:=2) rfl rfl) (.c (.o (j:=1) rfl rfl) (.c (.o (j:=0) rfl rfl) .n)))) rfl);refine glb (sa.2.1,yc,(sa.2.2.2.1,sa.2.2.2.2.1,sa.2.2.2.2.2.1,sa.2.2.2.2.2.2.1,sa.2.2.2.2.2.2.2.1,sa.2.2.2.2.2.2.2.2.1,()),sa.2.2.2.2.2.2.2.2.2.1,sa.2.2.2.2.2.2.2.2.2.2.1,()) 0 ?_;refine glb (sa.2.2.2.2.2.2.2.2.2.2.2.2.2.2.1,sa.2.2.2.2.2.2.2.2.2.2.2.2.2.2.2.1,()) 3 ?_;exact lv [] [1,2] ho
   ·refine gct ho (fun he ho=>?_) fun he ho=>?_
    ·refine run 1 ?_;refine zaN [0,1,1000004,1000006,1000007,1000009] (by kernel_rfl) ?_ (hdi:=rdists rfl (rowns rfl) (.c (.o (j:=3) rfl rfl) (.c (.o (j:=2) rfl rfl) (.c (.o (j:=1) rfl rfl) (.c (.o (j:=0) rfl rfl) .n)))) rfl);refine glb (sa.2.1,sa.2.2.1,(sa.2.2.2.1,sa.2.2.2.2.1,sa.2.2.2.2.2.1,sa.2.2.2.2.2.2.1,sa.2.2.2.2.2.2.2.1,sa.2.2.2.2.2.2.2.2.1,()),sa.2.2.2.2.2.2.2.2.2.1,sa.2.2.2.2.2.2.2.2.2.2.1,()) 0 ?_;refine glb (sa.2.2.2.2.2.2.2.2.2.2.2.2.2.2.1,sa.2.2.2.2.2.2.2.2.2.2.2.2.2.2.2.1,()) 3 ?_;exact lv [] [1,2] ho
    ·refine glb (sa.2.2.2.2.2.2.2.2.2.2.2.2.2.2.1,sa.2.2.2.2.2.2.2.2.2.2.2.2.2.2.2.1,()) 3 ?_;refine gcl ho fun yd hm ho=>?_;refine gal fun ba=>?_;refine gfz 1 zaR yd.1 0 [12] ?_;refine wbr ho (fun hf ho=>?_) fun hf ho=>?_
     ·refine gk ?_;refine run 1 ?_;refine zaN [0,1,1000004,1000006,1000007,1000009] (by kernel_rfl) ?_ (hdi:=rdists rfl (rowns rfl) (.c (.o (j:=3) rfl rfl) (.c (.o (j:=2) rfl rfl) (.c (.o (j:=1) rfl rfl) (.c (.o (j:=0) rfl rfl) .n)))) rfl);refine glb (sa.2.1,sa.2.2.1,(sa.2.2.2.1,sa.2.2.2.2.1,sa.2.2.2.2.2.1,sa.2.2.2.2.2.2.1,sa.2.2.2.2.2.2.2.1,sa.2.2.2.2.2.2.2.2.1,()),sa.2.2.2.2.2.2.2.2.2.1,sa.2.2.2.2.2.2.2.2.2.2.1,()) 0 ?_;refine glb (sa.2.2.2.2.2.2.2.2.2.2.2.2.2.2.1,sa.2.2.2.2.2.2.2.2.2.2.2.2.2.2.2.1,()) 3 ?_;exact lv [] [1,2] ho
     ·refine gct ho (fun hg ho=>?_) fun hg ho=>?_
      ·refine run 1 ?_;refine zaN [0,1,1000004,1000006,1000007,1000009] (by kernel_rfl) ?_ (hdi:=rdists rfl (rowns rfl) (.c (.o (j:=3) rfl rfl) (.c (.o (j:=2) rfl rfl) (.c (.o (j:=1) rfl rfl) (.c (.o (j:=0) rfl rfl) .n)))) rfl);refine glb (sa.2.1,sa.2.2.1,(sa.2.2.2.1,sa.2.2.2.2.1,sa.2.2.2.2.2.1,sa.2.2.2.2.2.2.1,sa.2.2.2.2.2.2.2.1,sa.2.2.2.2.2.2.2.2.1,()),sa.2.2.2.2.2.2.2.2.2.1,sa.2.2.2.2.2.2.2.2.2.2.1,()) 0 ?_;refine glb (sa.2.2.2.2.2.2.2.2.2.2.2.2.2.2.1,sa.2.2.2.2.2.2.2.2.2.2.2.2.2.2.2.1,()) 3 ?_;exact lv [] [1,2] ho
      ·refine run 18 ?_;refine zjk (R:=zw) (a:=(sa.2.2.2.1,sa.2.2.2.2.1,sa.2.2.2.2.2.1,sa.2.2.2.2.2.2.1,sa.2.2.2.2.2.2.2.1,sa.2.2.2.2.2.2.2.2.1,())) (off:=2) 0 (fun _ h=>by cases h<;>rfl) iu' zbS (by exact Nat.le_of_ble_eq_true rfl) (.n rfl) rfl rfl (.t rfl) rfl ?_;refine gcl ho fun ya hn ho=>?_;refine run 1 ?_;refine zf4 (off:=2) (es':=[vI ya.1,vI ya.2.1,vI ya.2.2.1,vI ya.2.2.2.1,vI ya.2.2.2.2.1,vI ya.2.2.2.2.2.1]) 0 iu' rfl zbS (by exact Nat.le_of_ble_eq_true rfl) (.n rfl) rfl rfl (.t rfl) (.t rfl) (by rfl) ?_;refine run 1 ?_;refine zaN [1,6] (by kernel_rfl) ?_;exact lv [] [0,1,2,3] ho
  ·refine gk ?_;refine gct ho (fun hh ho=>?_) fun hh ho=>?_
   ·refine run 1 ?_;refine zaN [0,1,1000004,1000006,1000007,1000009] (by kernel_rfl) ?_ (hdi:=rdists rfl (rowns rfl) (.c (.o (j:=3) rfl rfl) (.c (.o (j:=2) rfl rfl) (.c (.o (j:=1) rfl rfl) (.c (.o (j:=0) rfl rfl) .n)))) rfl);refine glb (sa.2.1,sa.2.2.1,(sa.2.2.2.1,sa.2.2.2.2.1,sa.2.2.2.2.2.1,sa.2.2.2.2.2.2.1,sa.2.2.2.2.2.2.2.1,sa.2.2.2.2.2.2.2.2.1,()),sa.2.2.2.2.2.2.2.2.2.1,sa.2.2.2.2.2.2.2.2.2.2.1,()) 0 ?_;refine glb (sa.2.2.2.2.2.2.2.2.2.2.2.2.2.2.1,sa.2.2.2.2.2.2.2.2.2.2.2.2.2.2.2.1,()) 3 ?_;exact lv [] [1,2] ho
   ·refine glb (sa.2.2.2.2.2.2.2.2.2.2.2.2.2.2.1,sa.2.2.2.2.2.2.2.2.2.2.2.2.2.2.2.1,()) 3 ?_;refine gcl ho fun ye hp ho=>?_;refine gal fun bb=>?_;refine gfz 1 zaR ye.1 0 [12] ?_;refine wbr ho (fun hi ho=>?_) fun hi ho=>?_
    ·refine gk ?_;refine run 1 ?_;refine zaN [0,1,1000004,1000006,1000007,1000009] (by kernel_rfl) ?_ (hdi:=rdists rfl (rowns rfl) (.c (.o (j:=3) rfl rfl) (.c (.o (j:=2) rfl rfl) (.c (.o (j:=1) rfl rfl) (.c (.o (j:=0) rfl rfl) .n)))) rfl);refine glb (sa.2.1,sa.2.2.1,(sa.2.2.2.1,sa.2.2.2.2.1,sa.2.2.2.2.2.1,sa.2.2.2.2.2.2.1,sa.2.2.2.2.2.2.2.1,sa.2.2.2.2.2.2.2.2.1,()),sa.2.2.2.2.2.2.2.2.2.1,sa.2.2.2.2.2.2.2.2.2.2.1,()) 0 ?_;refine glb (sa.2.2.2.2.2.2.2.2.2.2.2.2.2.2.1,sa.2.2.2.2.2.2.2.2.2.2.2.2.2.2.2.1,()) 3 ?_;exact lv [] [1,2] ho
    ·refine gct ho (fun hj ho=>?_) fun hj ho=>?_
     ·refine run 1 ?_;refine zaN [0,1,1000004,1000006,1000007,1000009] (by kernel_rfl) ?_ (hdi:=rdists rfl (rowns rfl) (.c (.o (j:=3) rfl rfl) (.c (.o (j:=2) rfl rfl) (.c (.o (j:=1) rfl rfl) (.c (.o (j:=0) rfl rfl) .n)))) rfl);refine glb (sa.2.1,sa.2.2.1,(sa.2.2.2.1,sa.2.2.2.2.1,sa.2.2.2.2.2.1,sa.2.2.2.2.2.2.1,sa.2.2.2.2.2.2.2.1,sa.2.2.2.2.2.2.2.2.1,()),sa.2.2.2.2.2.2.2.2.2.1,sa.2.2.2.2.2.2.2.2.2.2.1,()) 0 ?_;refine glb (sa.2.2.2.2.2.2.2.2.2.2.2.2.2.2.1,sa.2.2.2.2.2.2.2.2.2.2.2.2.2.2.2.1,()) 3 ?_;exact lv [] [1,2] ho
     ·refine run 18 ?_;refine zjk (R:=zw) (a:=(sa.2.2.2.1,sa.2.2.2.2.1,sa.2.2.2.2.2.1,sa.2.2.2.2.2.2.1,sa.2.2.2.2.2.2.2.1,sa.2.2.2.2.2.2.2.2.1,())) (off:=2) 0 (fun _ h=>by cases h<;>rfl) iu' zbS (by exact Nat.le_of_ble_eq_true rfl) (.n rfl) rfl rfl (.t rfl) rfl ?_;refine gcl ho fun yb hr ho=>?_;refine run 1 ?_;refine zf4 (off:=2) (es':=[vI yb.1,vI yb.2.1,vI yb.2.2.1,vI yb.2.2.2.1,vI yb.2.2.2.2.1,vI yb.2.2.2.2.2.1]) 0 iu' rfl zbS (by exact Nat.le_of_ble_eq_true rfl) (.n rfl) rfl rfl (.t rfl) (.t rfl) (by rfl) ?_;refine run 1 ?_;refine zaN [1,6] (by kernel_rfl) ?_;exact lv [] [0,1,2,3] ho
 ·exact rv ho⟩
instance i95 {p_0 way_1 t_2 state_3 stops_4}:FI ktab 95 (zb9 p_0 way_1 t_2 state_3 stops_4) [.val zaf p_0,.val (zf zJ) way_1,.val zbR t_2,vI state_3,.val (zf (zj .i64)) stops_4] (fun out=>[.row zge out.1,wI out.2]):=⟨fun out ho=>by
 delta zb9 at ho;refine fn fun _ _=>?_;refine gnr zge ?_;refine gcl ho fun y1 hy1 ho=>?_;refine gct ho (fun hq2 ho=>?_) fun hq2 ho=>?_
 ·refine gnr zge ?_;exact we ho
 ·obtain ⟨x5,hx5,ho⟩:=bnd ho;refine gal fun b6=>?_;refine gnr zge ?_;obtain ⟨x7,hx7,ta,ha,ho⟩:=zfX ho;refine gl2 ha ho [12,14,41,42] [] [1,0] (fun s g=>([(15,.raw (gh g 0)),(43,vI s.2.1)],[(.ptr b6 0,.box [vI s.2.2.1,vI s.2.2.2]),((gh g 0),.row zge s.1)])) (fun b=>(.exit 0,fun g=>([(15,.raw (gh g 0))],[((gh g 0),.row zge b.1)]))) (fun b=>(.ret,fun g=>([(10,.raw (gh g 0)),(11,vI b.2.1)],[((gh g 0),.row zge b.1)]))) [.nilslice] (fun sa ga _ ho=>?_) (fun ba ho gb=>?_) fun bb ho gb=>?_
  ·refine gct ho (fun hc ho=>?_) fun hc ho=>?_
   ·obtain ⟨xa,hg,ho⟩:=bnd ho;refine glb (sa.2.2.1,sa.2.2.2,()) 0 ?_;obtain ⟨pa,hd,ho⟩:=bnd ho;refine run 1 ?_;refine zgz (zcc (n:=48) hd rfl) ?_;refine gcl ho fun ya hh ho=>?_;refine gal fun bc=>?_;refine gal fun bd=>?_;refine gfz 1 zge ya.1 1 [18] ?_;refine gfz 1 zr ya.2.1 0 [19] ?_;refine wbr ho (fun he ho=>?_) fun he ho=>?_
    ·refine gk ?_;refine gnr zge ?_;exact lv [.nilslice] [0] ho
    ·refine gct ho (fun hf ho=>?_) fun hf ho=>?_
     ·refine gnr zge ?_;exact lv [.nilslice] [0] ho
     ·obtain ⟨xb,hi,ho⟩:=bnd ho;refine gap fun va=>?_;exact lv [va] [1,0] ho
   ·exact lv [(gh ga 0)] [1] ho
  ·exact we ho
  ·exact rv ho⟩
instance i96 {l_0 field_1}:FI ktab 96 (zaT l_0 field_1) [.val (zf zge) l_0,.val (rFn ktab (Leg) (Int) (fun x=>[.val zge (x)]) (fun y=>[.val (zj .i64) (y)])) field_1] (fun out=>[.row (zj .i64) out]):=⟨fun out ho=>by
 delta zaT at ho;refine fn fun _ _=>?_;refine gnr (zj .i64) ?_;refine gnr (zj .i64) ?_;obtain ⟨ta,ha,ho⟩:=bnd ho;refine glp ha [1,8,9] [] [0] (fun s g=>([(5,.raw (gh g 0)),(10,vI s.2)],[((gh g 0),.row (zj .i64) s.1)])) (fun b=>(.exit 0,fun g=>([(5,.raw (gh g 0))],[((gh g 0),.row (zj .i64) b)]))) [.nilslice] (fun s7 g8 _ ho=>?_) fun ga=>?_
 ·refine gct ho (fun hq9 ho=>?_) fun hq9 ho=>?_
  ·obtain ⟨xa,hd,ho⟩:=bnd ho;refine gal fun ba=>?_;refine gfz 1 zge xa 0 [7] ?_;obtain ⟨ya,hc,ho⟩:=bnd ho;refine gcv hc ?_;obtain ⟨xb,he,ho⟩:=bnd ho;refine gap fun va=>?_;exact lv [va] [0] ho
  ·exact lv [(gh g8 0)] [0] ho
 ·exact we ho⟩
instance i97 {x_0}:FI ktab 97 (zeI x_0) [.val zge x_0] (fun out=>[wI out]):=fw
instance i53 {p_0 way_1 t_2 state_3 stops_4}:FI ktab 53 (zbV p_0 way_1 t_2 state_3 stops_4) [.val zaf p_0,.val (zf zJ) way_1,.val zbR t_2,vI state_3,.val (zf (zj .i64)) stops_4] (fun out=>[.row (zj .i64) out.1,wI out.2]):=⟨fun out ho=>by
 delta zbV at ho;refine fn fun _ _=>?_;refine gnr (zj .i64) ?_;refine gcl ho fun y1 hy1 ho=>?_;intro v2;show zq ..;refine gct ho (fun hq3 ho=>?_) fun hq3 ho=>?_
 ·refine gnr (zj .i64) ?_;exact we ho
 ·obtain ⟨y4,hy4,ho⟩:=bnd ho;refine run 4 ?_;refine zj6 (i96.ok _ hy4) (.r zjl .n) rfl (.n rfl) rfl rfl rfl .f (.c (.r 0 (.t rfl) rfl) (.c (.o (.fv (zh5 (fun x y hf=>i97.ok _ hf) rfl))) .n)) ?_;intro v5;exact we ho⟩
instance i100 {p_0 l_1 c_2}:FI ktab 100 (zbk p_0 l_1 c_2) [.val zaf p_0,.val zbK l_1,.val zcF c_2] (fun out=>[.row (zj .i64) out.1,.row (zj .i64) out.2.1,wB out.2.2]):=⟨fun out ho=>by
 delta zbk at ho;refine fn fun _ _=>?_;refine gnr (zj .i64) ?_;refine gnr (zj .i64) ?_;refine gcl ho fun y1 hy1 ho=>?_;obtain ⟨c9,hc9,ho⟩:=bnd ho;refine run 8 ?_;refine gcx c9 [3,4,5,9,10] [0,1] (fun t=>(.normal,fun _=>([(58,vB t)],[]))) ?_ fun _=>?_
 ·have ho:=hc9;refine wbr ho (fun ha ho=>?_) fun ha ho=>?_
  ·exact lv [] [0,1] ho
  ·refine gcl ho fun yb hu ho=>?_;refine wbr ho (fun hc ho=>?_) fun hc ho=>?_
   ·exact lv [] [0,1] ho
   ·refine wbr ho (fun hd ho=>?_) fun hd ho=>?_
    ·exact lv [] [0,1] ho
    ·obtain ⟨xa,hv,ho⟩:=bnd ho;refine wbr ho (fun he ho=>?_) fun he ho=>?_
     ·exact lv [] [0,1] ho
     ·obtain ⟨xb,hw,ho⟩:=bnd ho;exact lv [] [0,1] ho
 ·refine gct ho (fun hf ho=>?_) fun hf ho=>?_
  ·refine gnr (zj .i64) ?_;refine gnr (zj .i64) ?_;refine run 2 ?_;cases ho; exact zfx (zdh (.inr rfl) (.r 1 rfl rfl (.r 0 rfl rfl (.v rfl .n))) (by decide))
  ·obtain ⟨ta,hg,ho⟩:=bnd ho;refine gl2 hg ho [3,4,5,9,10,60,61] [] [] (fun s g=>([(62,vI s)],[])) (fun b=>(.exit 0,fun g=>([],[]))) (fun b=>(.ret,fun g=>([(6,.raw (gh g 0)),(7,.raw (gh g 1)),(8,vB b.2.2)],[((gh g 0),.row (zj .i64) b.1),((gh g 1),.row (zj .i64) b.2.1)]))) [] (fun sa gb _ ho=>?_) (fun ba ho ga=>?_) fun bb ho ga=>?_
   ·refine gct ho (fun hh ho=>?_) fun hh ho=>?_
    ·obtain ⟨xd,hy,ho⟩:=bnd ho;refine gcl ho fun yc hz ho=>?_;refine wbr ho (fun hi ho=>?_) fun hi ho=>?_
     ·refine gk ?_;refine gnr (zj .i64) ?_;refine gnr (zj .i64) ?_;exact lv [.nilslice,.nilslice] [1,0] ho
     ·refine wbr ho (fun hj ho=>?_) fun hj ho=>?_
      ·obtain ⟨xe,hA,ho⟩:=bnd ho;refine wbr ho (fun hk ho=>?_) fun hk ho=>?_
       ·refine gk ?_;refine gnr (zj .i64) ?_;refine gnr (zj .i64) ?_;exact lv [.nilslice,.nilslice] [1,0] ho
       ·obtain ⟨xf,hB,ho⟩:=bnd ho;refine gcl ho fun yd hC ho=>?_;refine gct ho (fun hl ho=>?_) fun hl ho=>?_
        ·refine gnr (zj .i64) ?_;refine gnr (zj .i64) ?_;exact lv [.nilslice,.nilslice] [1,0] ho
        ·exact we ho
      ·obtain ⟨xg,hD,ho⟩:=bnd ho;refine gcl ho fun ye hE ho=>?_;refine gct ho (fun hm ho=>?_) fun hm ho=>?_
       ·refine gnr (zj .i64) ?_;refine gnr (zj .i64) ?_;exact lv [.nilslice,.nilslice] [1,0] ho
       ·exact we ho
    ·exact lv [] [] ho
   ·refine gcl ho fun ya hF ho=>?_;intro vc;show zq ..;obtain ⟨ca,hn,ho⟩:=bnd ho;refine run 8 ?_;refine gcx ca [5,9,14] [0] (fun t=>(.normal,fun _=>([(116,vB t)],[]))) ?_ fun _=>?_
    ·have ho:=hn;refine wbr ho (fun hp ho=>?_) fun hp ho=>?_
     ·exact lv [] [0] ho
     ·exact lv [] [0] ho
    ·refine gct ho (fun hr ho=>?_) fun hr ho=>?_
     ·refine gnr (zj .i64) ?_;refine gnr (zj .i64) ?_;refine run 2 ?_;cases ho; exact zfx (zdh (.inr rfl) (.r 1 rfl rfl (.r 0 rfl rfl (.v rfl .n))) (by decide))
     ·obtain ⟨xh,hG,ho⟩:=bnd ho;refine gmk fun va=>?_;refine run 1 ?_;obtain ⟨xi,hH,ho⟩:=bnd ho;refine gmk fun vb=>?_;obtain ⟨tb,hs,ho⟩:=bnd ho;refine glp hs [5,9,15,16,121,122] [] [0,1,2] (fun s g=>([(123,vI s.1)],[(vb,.row (zj .i64) s.2.1),(va,.row (zj .i64) s.2.2),(vc,.row (zj .i64) ya.1)])) (fun b=>(.exit 2,fun g=>([],[(vb,.row (zj .i64) b.1),(va,.row (zj .i64) b.2)]))) [] (fun sb gc _ ho=>?_) fun gd=>?_
      ·refine gct ho (fun ht ho=>?_) fun ht ho=>?_
       ·obtain ⟨xj,hI,xk,hJ,xl,hK,ho⟩:=zn2 ho;refine run 23 ?_;refine zaN [6,11] (by kernel_rfl) ?_;obtain ⟨xm,hL,xn,hM,xo,hN,ho⟩:=zn2 ho;obtain ⟨xp,hO,ho⟩:=bnd ho;exact lv [] [0,1,2] ho
       ·exact lv [] [0,1] ho
      ·refine run 1 ?_;refine zaN [6] (by kernel_rfl) ?_;obtain ⟨xq,hP,ho⟩:=bnd ho;refine run 12 ?_;cases ho; exact zfx (zdh (.inr rfl) (.r 1 rfl rfl (.r 0 rfl rfl (.v rfl .n))) (by decide))
   ·cases ho; exact id (zdh (.inr rfl) (.r 0 rfl rfl (.r 1 rfl rfl (.v rfl .n))) (by decide))⟩
end Go.Ai.TabYtppebpagcocogaaGreat

/- Written by program: walks through functions. -/
namespace Go.Ai.TabYtppebpagcocogaaGreat
open Go Go.Ai Go.Ai.Sx Go.Proofs
attribute [local irreducible] zq
set_option maxRecDepth 100000
set_option maxHeartbeats 4000000
instance i54 {p_0 l_1}:FI ktab 54 (zbL p_0 l_1) [.val zaf p_0,.val zbK l_1] (fun out=>[.val (zez zg) out.1,wB out.2]):=⟨fun out ho=>by
 delta zbL at ho;refine fn fun _ _=>?_;refine run 4 ?_;refine zai rfl (.n rfl) rfl (e:=.val (zez zg) none) (fun z fr h s=>⟨_,rfl,zci⟩) ?_;obtain ⟨c4,hc4,ho⟩:=bnd ho;refine run 4 ?_;refine gcx c4 [2,3] [] (fun t=>(.normal,fun _=>([(18,vB t)],[]))) ?_ fun _=>?_
 ·exact we hc4
 ·refine gct ho (fun hq8 ho=>?_) fun hq8 ho=>?_
  ·refine run 2 ?_;refine zai rfl (.n rfl) rfl (e:=.val (zez zg) none) (fun z fr h s=>⟨_,rfl,zci⟩) ?_;exact we ho
  ·refine run 4 ?_;refine zl3 (R:=zg) zBe (.n rfl) rfl rfl rfl (.p (.t rfl) rfl (.z (fun _=>(zyF znil rfl rfl)) (.z (fun _=>(zyF znil rfl rfl)) (.n rfl)))) ?_;refine xbo fun b9=>?_;refine gcl ho fun yb hg ho=>?_;obtain ⟨ta,hd,ho⟩:=bnd ho;refine gl2 hd ho [2,3,6,23] [] [0] (fun s g=>([(24,vI s.1)],[(.ptr b9 0,.box [.val (zf zJ) l_1.1.1,.val (zf (zj .i64)) l_1.1.2.1,.val (zf (zj .i64)) l_1.1.2.2.1,.val (zf zJ) l_1.2.1.1,.val (zf (zj .i64)) l_1.2.1.2.1,.val (zf (zj .i64)) l_1.2.1.2.2.1,vI l_1.2.2.1.1,vI l_1.2.2.1.2.1,vI l_1.2.2.1.2.2.1,vI l_1.2.2.1.2.2.2.1,vI l_1.2.2.1.2.2.2.2.1,vI l_1.2.2.1.2.2.2.2.2.1,vI l_1.2.2.1.2.2.2.2.2.2.1,vI l_1.2.2.1.2.2.2.2.2.2.2.1,vI l_1.2.2.1.2.2.2.2.2.2.2.2.1,.val (zf (zj .i64)) l_1.2.2.1.2.2.2.2.2.2.2.2.2.1,vI l_1.2.2.2.1,vI l_1.2.2.2.2.1,.val (zf (zj .i64)) s.2.1,.val (zf (zj .i64)) s.2.2.1,.val (zf (zj .i64)) s.2.2.2.1,.val (zf (zj .i64)) s.2.2.2.2])])) (fun b=>(.exit 0,fun g=>([],[(.ptr b9 0,.box [.val (zf zJ) l_1.1.1,.val (zf (zj .i64)) l_1.1.2.1,.val (zf (zj .i64)) l_1.1.2.2.1,.val (zf zJ) l_1.2.1.1,.val (zf (zj .i64)) l_1.2.1.2.1,.val (zf (zj .i64)) l_1.2.1.2.2.1,vI l_1.2.2.1.1,vI l_1.2.2.1.2.1,vI l_1.2.2.1.2.2.1,vI l_1.2.2.1.2.2.2.1,vI l_1.2.2.1.2.2.2.2.1,vI l_1.2.2.1.2.2.2.2.2.1,vI l_1.2.2.1.2.2.2.2.2.2.1,vI l_1.2.2.1.2.2.2.2.2.2.2.1,vI l_1.2.2.1.2.2.2.2.2.2.2.2.1,.val (zf (zj .i64)) l_1.2.2.1.2.2.2.2.2.2.2.2.2.1,vI l_1.2.2.2.1,vI l_1.2.2.2.2.1,.val (zf (zj .i64)) b.1,.val (zf (zj .i64)) b.2.1,.val (zf (zj .i64)) b.2.2.1,.val (zf (zj .i64)) b.2.2.2])]))) (fun b=>(.ret,fun g=>([(4,.val (zez zg) b.1),(5,vB b.2.1)],[]))) [] (fun sa gb _ ho=>?_) (fun ba ho ga=>?_) fun bb ho ga=>?_
   ·refine gct ho (fun he ho=>?_) fun he ho=>?_
    ·obtain ⟨xa,hh,ho⟩:=bnd ho;refine gal fun bc=>?_;refine gfz 2 zcF xa 0 [8] ?_;refine gcl ho fun ya hi ho=>?_;intro va vb;show zq ..;obtain ⟨xb,ha,ho⟩:=bnd ho;refine run 6 ?_;refine zrT ia' rfl ha (.n rfl) rfl rfl (.t rfl) (.t rfl) ?_;refine zgz (zjZ 0 [37] rfl rfl ⟨rfl,trivial⟩) ?_;refine znw (es':=[.val (zf zJ) l_1.1.1,.val (zf (zj .i64)) l_1.1.2.1,.val (zf (zj .i64)) l_1.1.2.2.1,.val (zf zJ) l_1.2.1.1,.val (zf (zj .i64)) l_1.2.1.2.1,.val (zf (zj .i64)) l_1.2.1.2.2.1,vI l_1.2.2.1.1,vI l_1.2.2.1.2.1,vI l_1.2.2.1.2.2.1,vI l_1.2.2.1.2.2.2.1,vI l_1.2.2.1.2.2.2.2.1,vI l_1.2.2.1.2.2.2.2.2.1,vI l_1.2.2.1.2.2.2.2.2.2.1,vI l_1.2.2.1.2.2.2.2.2.2.2.1,vI l_1.2.2.1.2.2.2.2.2.2.2.2.1,.val (zf (zj .i64)) l_1.2.2.1.2.2.2.2.2.2.2.2.2.1,vI l_1.2.2.2.1,vI l_1.2.2.2.2.1,.val (zf (zj .i64)) (cond (sa.1==0) ya.1 sa.2.1),.val (zf (zj .i64)) (cond (sa.1==1) ya.1 sa.2.2.1),.val (zf (zj .i64)) sa.2.2.2.1,.val (zf (zj .i64)) sa.2.2.2.2]) 1 (U27).sz rfl (zvC ha (by exact Nat.le_of_ble_eq_true rfl)) (by rcases ix2 ha with e_ | e_<;>rw [e_]<;>rfl) (.n rfl) rfl rfl (.t rfl) (.t rfl) rfl rfl ?_;obtain ⟨xd,hc,ho⟩:=bnd ho;refine run 2 ?_;refine zrT ia' rfl hc (.n rfl) rfl rfl (.t rfl) (.t rfl) ?_;refine zgz (zjZ 0 [38] rfl rfl ⟨rfl,trivial⟩) ?_;refine znw (es':=[.val (zf zJ) l_1.1.1,.val (zf (zj .i64)) l_1.1.2.1,.val (zf (zj .i64)) l_1.1.2.2.1,.val (zf zJ) l_1.2.1.1,.val (zf (zj .i64)) l_1.2.1.2.1,.val (zf (zj .i64)) l_1.2.1.2.2.1,vI l_1.2.2.1.1,vI l_1.2.2.1.2.1,vI l_1.2.2.1.2.2.1,vI l_1.2.2.1.2.2.2.1,vI l_1.2.2.1.2.2.2.2.1,vI l_1.2.2.1.2.2.2.2.2.1,vI l_1.2.2.1.2.2.2.2.2.2.1,vI l_1.2.2.1.2.2.2.2.2.2.2.1,vI l_1.2.2.1.2.2.2.2.2.2.2.2.1,.val (zf (zj .i64)) l_1.2.2.1.2.2.2.2.2.2.2.2.2.1,vI l_1.2.2.2.1,vI l_1.2.2.2.2.1,.val (zf (zj .i64)) (cond (sa.1==0) ya.1 sa.2.1),.val (zf (zj .i64)) (cond (sa.1==1) ya.1 sa.2.2.1),.val (zf (zj .i64)) (cond (sa.1==0) ya.2.1 sa.2.2.2.1),.val (zf (zj .i64)) (cond (sa.1==1) ya.2.1 sa.2.2.2.2)]) 0 (U27).sz rfl (zvC hc (by exact Nat.le_of_ble_eq_true rfl)) (by rcases ix2 hc with e_ | e_<;>rw [e_]<;>rfl) (.n rfl) rfl rfl (.t rfl) (.t rfl) rfl rfl ?_
     refine gct ho (fun hf ho=>?_) fun hf ho=>?_
     ·refine run 2 ?_;refine zai rfl (.n rfl) rfl (e:=.val (zez zg) none) (fun z fr h s=>⟨_,rfl,zci⟩) ?_;exact we ho
     ·exact lv [] [0] ho
    ·exact lv [] [0] ho
   ·refine run 6 ?_;cases ho;refine zn1 (zey (R:=zg) (a:=(((l_1.1.1,l_1.1.2.1,l_1.1.2.2.1,()),(l_1.2.1.1,l_1.2.1.2.1,l_1.2.1.2.2.1,()),(l_1.2.2.1.1,l_1.2.2.1.2.1,l_1.2.2.1.2.2.1,l_1.2.2.1.2.2.2.1,l_1.2.2.1.2.2.2.2.1,l_1.2.2.1.2.2.2.2.2.1,l_1.2.2.1.2.2.2.2.2.2.1,l_1.2.2.1.2.2.2.2.2.2.2.1,l_1.2.2.1.2.2.2.2.2.2.2.2.1,l_1.2.2.1.2.2.2.2.2.2.2.2.2.1,()),l_1.2.2.2.1,l_1.2.2.2.2.1,()),[ba.1,ba.2.1],[ba.2.2.1,ba.2.2.2],())) 0 [6,49,4] (zt (zt (zt (zE rfl) (zt (zE rfl) (zt (zE rfl) zcs rfl) rfl) rfl) (zt (zt (zE rfl) (zt (zE rfl) (zt (zE rfl) zcs rfl) rfl) rfl) (zt (zt (zE rfl) (zt (zE rfl) (zt (zE rfl) (zt (zE rfl) (zt (zE rfl) (zt (zE rfl) (zt (zE rfl) (zt (zE rfl) (zt (zE rfl) (zt (zE rfl) zcs rfl) rfl) rfl) rfl) rfl) rfl) rfl) rfl) rfl) rfl) (zt (zE rfl) (zt (zE rfl) zcs rfl) rfl) rfl) rfl) rfl) (zt (ziF rfl) (zt (ziF rfl) zcs rfl) rfl) rfl) rfl rfl ⟨rfl,rfl,rfl,trivial⟩) ?_;refine zn1 (ziC (n:=4) rfl) ?_;exact zfx (zdh (.inr rfl) (.v rfl (.v rfl .n)) (by decide))
   ·exact rv ho⟩
instance i55 {home_0}:FI ktab 55 (zaz home_0) [vB home_0] (fun out=>[wI out]):=fw
instance i18 {p_0 l_1 home_2}:FI ktab 18 (zav p_0 l_1 home_2) [.val zaf p_0,.val zbK l_1,vB home_2] (fun out=>[.val (zf (zj .i64)) out.1,wI out.2]):=⟨fun out ho=>by
 delta zav at ho;refine fn fun _ _=>?_;refine run 4 ?_;refine zeH (.n rfl) rfl rfl (.nil (R:=(zj .i64))) ?_;refine gcl ho fun y1 hy1 ho=>?_;refine gct ho (fun hq2 ho=>?_) fun hq2 ho=>?_
 ·refine run 2 ?_;refine zeH (.n rfl) rfl rfl (.nil (R:=(zj .i64))) ?_;exact we ho
 ·refine gcl ho fun y6 hy6 ho=>?_;obtain ⟨p7,hp7,ho⟩:=bnd ho;refine zgz (zcc (n:=18) hp7 rfl) ?_;obtain ⟨x8,hx8,ho⟩:=bnd ho;refine run 2 ?_;refine zbf ia' hx8 (.n rfl) rfl rfl (.t rfl) (.t rfl) ?_;exact we ho⟩
instance i81 {r_0 side_1}:FI ktab 81 (zy r_0 side_1) [.val (zaQ zg) r_0,vI side_1] (fun out=>[wI out]):=⟨fun out ho=>by
 delta zy at ho;refine fn fun _ _=>?_;obtain ⟨x4,hx4,ho⟩:=bnd ho;refine run 10 ?_;refine zbf ia' hx4 (.n rfl) rfl rfl (.t rfl) (.t rfl) ?_;obtain ⟨x5,hx5,ho⟩:=bnd ho;refine run 5 ?_;refine zbf ia' hx5 (.n rfl) rfl rfl (.t rfl) (.t rfl) ?_;exact we ho⟩
instance i56 {r_0}:FI ktab 56 (zaX r_0) [.val (zaQ zg) r_0] (fun out=>[wI out]):=fw
instance i19 {p_0 l_1}:FI ktab 19 (zcO p_0 l_1) [.val zaf p_0,.val zbK l_1] (fun out=>[wI out.1,wI out.2]):=⟨fun out ho=>by
 delta zcO at ho;refine fn fun _ _=>?_;refine gcl ho fun y1 hy1 ho=>?_;refine gct ho (fun hq2 ho=>?_) fun hq2 ho=>?_
 ·exact we ho
 ·obtain ⟨p3,hp3,ho⟩:=bnd ho;refine run 4 ?_;refine zgz (zcc (n:=16) hp3 rfl) ?_;exact we ho⟩
instance i58 {r_0 headway_1}:FI ktab 58 (zaK r_0 headway_1) [.val (zaQ zg) r_0,vI headway_1] (fun out=>[wI out]):=fw
instance i20 {p_0 l_1 headway_2}:FI ktab 20 (zbM p_0 l_1 headway_2) [.val zaf p_0,.val zbK l_1,vI headway_2] (fun out=>[wI out.1,wI out.2]):=⟨fun out ho=>by
 delta zbM at ho;refine fn fun _ _=>?_;refine gcl ho fun y1 hy1 ho=>?_;obtain ⟨c4,hc4,ho⟩:=bnd ho;refine run 8 ?_;refine gcx c4 [2,8] [] (fun t=>(.normal,fun _=>([(22,vB t)],[]))) ?_ fun _=>?_
 ·exact we hc4
 ·refine gct ho (fun hq7 ho=>?_) fun hq7 ho=>?_
  ·exact we ho
  ·obtain ⟨p8,hp8,ho⟩:=bnd ho;refine run 5 ?_;refine zgz (zcc (n:=23) hp8 rfl) ?_;exact we ho⟩
instance i45 {length_0}:FI ktab 45 (zdL length_0) [vI length_0] (fun out=>[.val zaf out.1,.val zbK out.2]):=⟨fun out ho=>by
 delta zdL at ho;refine fn fun _ _=>?_;refine gal fun b1=>?_;refine gal fun b2=>?_;refine gal fun b3=>?_;refine gfz 1 zaf (([(((0,0,()),1,[((0,false,()):zo)],0,()):zcp),((((length_0,0,()):Spot),1,[((0,true,()):zo)],0,()):zcp)],[((0,1,[],8000,0,()):Rail)],()):Plan) 0 [4] ?_;refine gal fun b4=>?_;refine gfz 1 zbR ((1000,1000,8000,2000,2000,1000000,0,0,0,[1000],()):Train) 0 [5] ?_;obtain ⟨x5,hx5,ho⟩:=bnd ho;refine gal fun b6=>?_;refine gfz 1 zcF (([((0,false,()):zG)],[1000,x5,length_0],[0,20,0],()):Course) 0 [6] ?_;refine run 6 ?_;obtain ⟨x7,hx7,ho⟩:=bnd ho;refine gal fun b8=>?_;refine gfz 1 zcF (([((0,true,()):zG)],[1000,x7,length_0],[0,10,0],()):Course) 0 [7] ?_;exact we ho⟩
instance i17:FI ktab 17 (zu) [] (fun out=>[wB out]):=⟨fun out ho=>by
 delta zu at ho;refine fn fun _ _=>?_;refine gcl ho fun y1 hy1 ho=>?_;refine gal fun b2=>?_;refine gal fun b3=>?_;refine gfz 1 zaf y1.1 1 [1] ?_;refine gfz 1 zbK y1.2 0 [2] ?_;refine gcl ho fun y4 hy4 ho=>?_;intro v5;show zq ..;refine gcl ho fun y6 hy6 ho=>?_;refine gcl ho fun y7 hy7 ho=>?_;refine gcl ho fun y8 hy8 ho=>?_;obtain ⟨ca,ha,ho⟩:=bnd ho;refine run 8 ?_;refine gcx ca [1,2,3,5,7,9] [0] (fun t=>(.normal,fun _=>([(80,vB t)],[]))) ?_ fun _=>?_
 ·have ho:=ha;refine wbr ho (fun hc ho=>?_) fun hc ho=>?_
  ·exact lv [] [0] ho
  ·refine wbr ho (fun hd ho=>?_) fun hd ho=>?_
   ·exact lv [] [0] ho
   ·refine wbr ho (fun he ho=>?_) fun he ho=>?_
    ·exact lv [] [0] ho
    ·refine wbr ho (fun hf ho=>?_) fun hf ho=>?_
     ·exact lv [] [0] ho
     ·refine wbr ho (fun hg ho=>?_) fun hg ho=>?_
      ·exact lv [] [0] ho
      ·refine wbr ho (fun hh ho=>?_) fun hh ho=>?_
       ·exact lv [] [0] ho
       ·exact lv [] [0] ho
 ·refine gct ho (fun hi ho=>?_) fun hi ho=>?_
  ·exact we ho
  ·refine run 2 ?_;refine zaN [2,7] (by kernel_rfl) ?_;obtain ⟨xa,ht,xb,hu,xd,hv,ho⟩:=zn2 ho;obtain ⟨xe,hw,ho⟩:=bnd ho;refine gcl ho fun ya hy ho=>?_;refine gcl ho fun yb hz ho=>?_;obtain ⟨cc,hj,ho⟩:=bnd ho;refine run 7 ?_;refine gcx cc [] [0] (fun t=>(.normal,fun _=>([(0,vB t)],[]))) ?_ fun _=>?_
   ·have ho:=hj;obtain ⟨xf,hA,ho⟩:=bnd ho;refine wbr ho (fun hk ho=>?_) fun hk ho=>?_
    ·obtain ⟨xg,hB,ho⟩:=bnd ho;refine wbr ho (fun hl ho=>?_) fun hl ho=>?_
     ·obtain ⟨xh,hC,ho⟩:=bnd ho;refine wbr ho (fun hm ho=>?_) fun hm ho=>?_
      ·refine run 26 ?_;obtain ⟨xi,hD,xj,hE,ho⟩:=zfX ho;refine wbr ho (fun hn ho=>?_) fun hn ho=>?_
       ·refine wbr ho (fun hp ho=>?_) fun hp ho=>?_
        ·refine wbr ho (fun hr ho=>?_) fun hr ho=>?_
         ·refine wbr ho (fun hs ho=>?_) fun hs ho=>?_
          ·exact lv [] [0] ho
          ·exact lv [] [0] ho
         ·exact lv [] [0] ho
        ·exact lv [] [0] ho
       ·exact lv [] [0] ho
      ·exact lv [] [0] ho
     ·exact lv [] [0] ho
    ·exact lv [] [0] ho
   ·exact rv ho⟩
end Go.Ai.TabYtppebpagcocogaaGreat
