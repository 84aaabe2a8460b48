/- Written by program: walks through functions. -/
import Derived.Test.YtppebpagcocogaaGreatS11
import Derived.Test.YtppebpagcocogaaGreatS17
set_option linter.unusedSimpArgs false
set_option linter.unusedVariables false
set_option linter.unusedSectionVars false
namespace Go.Ai.TabYtppebpagcocogaaGreat
open Go Go.Ai Go.Ai.Sx Go.Proofs
attribute [local irreducible] zq
set_option maxRecDepth 100000
set_option maxHeartbeats 4000000
instance i131 {p_0 way_1}:FI ktab 131 (zcd p_0 way_1) [.val zaf p_0,.val (zf zJ) way_1] (fun out=>[wI out.1,wI out.2]):=⟨fun out ho=>by
 delta zcd at ho;refine fn fun _ _=>?_;refine gcl ho fun y1 hy1 ho=>?_;obtain ⟨c5,hc5,ho⟩:=bnd ho;refine run 8 ?_;refine gcx c5 [1,6] [] (fun t=>(.normal,fun _=>([(20,vB t)],[]))) ?_ fun _=>?_
 ·have ho:=hc5;refine wbr ho (fun hb6 ho=>?_) fun hb6 ho=>?_
  ·exact we ho
  ·obtain ⟨p7,hp7,ho⟩:=bnd ho;refine run 6 ?_;refine zgz (zcc (n:=16) hp7 rfl) ?_;exact we ho
 ·refine gct ho (fun hq9 ho=>?_) fun hq9 ho=>?_
  ·exact we ho
  ·obtain ⟨pa,ha,ho⟩:=bnd ho;refine run 5 ?_;refine zgz (zcc (n:=21) ha rfl) ?_;exact we ho⟩
instance i142 {n_0 low_1 high_2}:FI ktab 142 (zS n_0 low_1 high_2) [vI n_0,vI low_1,vI high_2] (fun out=>[wB out]):=⟨fun out ho=>by
 delta zS at ho;refine fn fun _ _=>?_;obtain ⟨c2,hc2,ho⟩:=bnd ho;refine run 5 ?_;refine gcx c2 [] [] (fun t=>(.normal,fun _=>([(6,vB t)],[]))) ?_ fun _=>?_
 ·exact we hc2
 ·exact rv ho⟩
instance i136 {s_0 f_1}:FI ktab 136 (zbw s_0 f_1) [.val (zf (zj .i64)) s_0,.val (rFn ktab (Int) (Bool) (fun x=>[.val (zj .i64) (x)]) (fun y=>[.val zab (y)])) f_1] (fun out=>[wI out]):=⟨fun out ho=>by
 delta zbw at ho;refine fn fun _ _=>?_;obtain ⟨ta,ha,ho⟩:=bnd ho;refine gl2 ha ho [0,1,7] [] [] (fun s g=>([(8,vI s)],[])) (fun b=>(.exit 0,fun g=>([],[]))) (fun b=>(.ret,fun g=>([(4,vI b)],[]))) [] (fun s5 g6 _ ho=>?_) (fun ba ho ga=>?_) fun bb ho ga=>?_
 ·refine gct ho (fun hq7 ho=>?_) fun hq7 ho=>?_
  ·obtain ⟨x8,hx8,y9,hy9,ho⟩:=zfX ho;refine gcv hy9 ?_;exact we ho
  ·exact lv [] [] ho
 ·exact we ho
 ·exact rv ho⟩
instance i105 {s_0 f_1}:FI ktab 105 (zaG s_0 f_1) [.val (zf (zj .i64)) s_0,.val (rFn ktab (Int) (Bool) (fun x=>[.val (zj .i64) (x)]) (fun y=>[.val zab (y)])) f_1] (fun out=>[wB out]):=fw
instance i181 {g_0}:FI ktab 181 (ze5 g_0) [vI g_0] (fun out=>[wB out]):=fw
instance i170 {t_0}:FI ktab 170 (zdJ t_0) [.val zbR t_0] (fun out=>[wI out]):=⟨fun out ho=>by
 delta zdJ at ho;refine fn fun _ _=>?_;obtain ⟨ca,hc,ho⟩:=bnd ho;refine run 7 ?_;refine gcx ca [1] [] (fun t=>(.normal,fun _=>([(54,vB t)],[]))) ?_ fun _=>?_
 ·exact we hc
 ·refine gct ho (fun hd ho=>?_) fun hd ho=>?_
  ·exact we ho
  ·obtain ⟨cc,he,ho⟩:=bnd ho;refine run 3 ?_;refine gcx cc [] [] (fun t=>(.normal,fun _=>([(64,vB t)],[]))) ?_ fun _=>?_
   ·have ho:=he;refine gcl ho fun ya hh ho=>?_;refine wbr ho (fun ha ho=>?_) fun ha ho=>?_
    ·exact we ho
    ·obtain ⟨yb,hg,ho⟩:=bnd ho;refine run 4 ?_;refine zj6 (i105.ok _ hg) (.v zj4 .n) rfl (.g rfl rfl (gf0 ha)) rfl rfl rfl .f (.c (.o (.t rfl)) (.c (.o (.fv (zh5 (fun x y hf=>i181.ok _ hf) rfl))) .n)) ?_;exact we ho
   ·exact we ho⟩
instance i141 {t_0 state_1}:FI ktab 141 (zdl t_0 state_1) [.val zbR t_0,vI state_1] (fun out=>[.val (zez zM) out.1,wB out.2]):=⟨fun out ho=>by
 delta zdl at ho;refine fn fun _ _=>?_;refine run 3 ?_;refine zai rfl (.n rfl) rfl (e:=.val (zez zM) none) (fun z fr h s=>⟨_,rfl,zci⟩) ?_;obtain ⟨c4,hc4,ho⟩:=bnd ho;refine run 4 ?_;refine gcx c4 [1,2] [] (fun t=>(.normal,fun _=>([(17,vB t)],[]))) ?_ fun _=>?_
 ·exact we hc4
 ·refine gct ho (fun hq8 ho=>?_) fun hq8 ho=>?_
  ·refine run 2 ?_;refine zai rfl (.n rfl) rfl (e:=.val (zez zM) none) (fun z fr h s=>⟨_,rfl,zci⟩) ?_;exact we ho
  ·refine run 10 ?_;cases ho;refine zn1 (ziC (n:=4) rfl) ?_;exact zfx (zdh (.inr rfl) (.v rfl (.v rfl .n)) (by decide))⟩
instance i143 {p_0 rail_1}:FI ktab 143 (zb8 p_0 rail_1) [.val zaf p_0,vI rail_1] (fun out=>[wI out.1,wI out.2]):=⟨fun out ho=>by
 delta zb8 at ho;refine fn fun _ _=>?_;refine gcl ho fun y1 hy1 ho=>?_;obtain ⟨c5,hc5,ho⟩:=bnd ho;refine run 8 ?_;refine gcx c5 [1,6] [] (fun t=>(.normal,fun _=>([(21,vB t)],[]))) ?_ fun _=>?_
 ·have ho:=hc5;refine wbr ho (fun hb6 ho=>?_) fun hb6 ho=>?_
  ·exact we ho
  ·obtain ⟨p7,hp7,ho⟩:=bnd ho;refine run 7 ?_;refine zgz (zcc (n:=16) hp7 rfl) ?_;exact we ho
 ·refine gct ho (fun hq9 ho=>?_) fun hq9 ho=>?_
  ·exact we ho
  ·obtain ⟨pa,ha,ho⟩:=bnd ho;refine run 4 ?_;refine zgz (zcc (n:=22) ha rfl) ?_;exact we ho⟩
instance i121 {p_0 way_1 t_2 state_3 stops_4}:FI ktab 121 (zdK p_0 way_1 t_2 state_3 stops_4) [.val zaf p_0,.val (zf zJ) way_1,.val zbR t_2,vI state_3,.val (zf (zj .i64)) stops_4] (fun out=>[.val (zez zaD) out.1,wB out.2]):=⟨fun out ho=>by
 delta zdK at ho;refine fn fun _ _=>?_;refine run 4 ?_;refine zai rfl (.n rfl) rfl (e:=.val (zez zaD) none) (fun z fr h s=>⟨_,rfl,zci⟩) ?_;refine gcl ho fun y1 hy1 ho=>?_;refine gcl ho fun y2 hy2 ho=>?_;obtain ⟨ca,ha,ho⟩:=bnd ho;refine run 8 ?_;refine gcx ca [1,4,5,12] [] (fun t=>(.normal,fun _=>([(66,vB t)],[]))) ?_ fun _=>?_
 ·exact we ha
 ·refine gct ho (fun hc ho=>?_) fun hc ho=>?_
  ·refine run 2 ?_;refine zai rfl (.n rfl) rfl (e:=.val (zez zaD) none) (fun z fr h s=>⟨_,rfl,zci⟩) ?_;exact we ho
  ·obtain ⟨ta,hd,ho⟩:=bnd ho;refine gl2 hd ho [1,4,5,12] [] [] (fun s g=>([(16,vI s)],[])) (fun b=>(.exit 0,fun g=>([],[]))) (fun b=>(.ret,fun g=>([(10,.val (zez zaD) b.1),(11,vB b.2)],[]))) [] (fun sa gd _ ho=>?_) (fun bc ho gb=>?_) fun bd ho gb=>?_
   ·refine gct ho (fun he ho=>?_) fun he ho=>?_
    ·obtain ⟨xd,ht,xe,hu,ho⟩:=zfX ho;refine gct ho (fun hf ho=>?_) fun hf ho=>?_
     ·refine run 2 ?_;refine zai rfl (.n rfl) rfl (e:=.val (zez zaD) none) (fun z fr h s=>⟨_,rfl,zci⟩) ?_;exact we ho
     ·exact we ho
    ·exact lv [] [] ho
   ·obtain ⟨pa,hg,ho⟩:=bnd ho;refine run 5 ?_;refine zgz (zcc (n:=83) hg rfl) ?_;refine zl3 (R:=zkf) zz9 (.n rfl) rfl rfl rfl (.p (.t rfl) rfl (.p (.t rfl) rfl (.z (fun _=>zrN) (.z (fun _=>zrN) (.z (fun _=>zrN) (.p (.t rfl) rfl (.n rfl))))))) ?_;refine xbo fun bb=>?_;refine zgz (zhd (q:=2) 0 rfl rfl rfl) ?_;refine zgz (zfw (zj .i64)) ?_;refine zgz (zhd (q:=3) 1 rfl rfl rfl) ?_;refine zgz (zfw (zj .i64)) ?_;refine zgz (zhd (q:=4) 2 rfl rfl rfl) ?_;refine zgz (zfw (zj .i64)) ?_;obtain ⟨tb,hh,ho⟩:=bnd ho;refine gl2 hh ho [5,17,88,89] [] [3,0,1,2] (fun s g=>([(18,vI s.1),(90,vI s.2.1)],[(.ptr bb 0,.box [.val (zaQ zM) pa,.val (zf zJ) way_1,.raw (gh g 2),.raw (gh g 1),.raw (gh g 0),.val (zf (zj .i64)) stops_4]),((gh g 0),.row (zj .i64) s.2.2.1),((gh g 1),.row (zj .i64) s.2.2.2.1),((gh g 2),.row (zj .i64) s.2.2.2.2)])) (fun b=>(.exit 2,fun g=>([],[(.ptr bb 0,.box [.val (zaQ zM) pa,.val (zf zJ) way_1,.raw (gh g 0),.raw (gh g 1),.raw (gh g 2),.val (zf (zj .i64)) stops_4]),((gh g 0),.row (zj .i64) b.1),((gh g 1),.row (zj .i64) b.2.1),((gh g 2),.row (zj .i64) b.2.2)]))) (fun b=>(.ret,fun g=>([(10,.val (zez zaD) b.1),(11,vB b.2.1)],[]))) [.nilslice,.nilslice,.nilslice] (fun sb ga _ ho=>?_) (fun ba ho gc=>?_) fun be ho gc=>?_
    ·refine gct ho (fun hi ho=>?_) fun hi ho=>?_
     ·obtain ⟨xa,hv,ho⟩:=bnd ho;refine gal fun bf=>?_;refine gfz 1 zJ xa 0 [20] ?_;refine gcl ho fun ya hw ho=>?_;refine gct ho (fun hj ho=>?_) fun hj ho=>?_
      ·refine run 2 ?_;refine zai rfl (.n rfl) rfl (e:=.val (zez zaD) none) (fun z fr h s=>⟨_,rfl,zci⟩) ?_;exact lv [(gh ga 2),(gh ga 1),(gh ga 0)] [] ho
      ·obtain ⟨xb,hy,ho⟩:=bnd ho;refine gal fun bg=>?_;refine gfz 1 zd4 xb 0 [23] ?_;refine gct ho (fun hk ho=>?_) fun hk ho=>?_
       ·refine run 5 ?_;refine zaN [6,13,21,1000017,2000023] (by kernel_rfl) ?_ (hdi:=rdists rfl (rowns rfl) (.c (.o (j:=0) rfl rfl) (.c (.q rfl) .n)) rfl);obtain ⟨xf,hl,ho⟩:=bnd ho;refine run 9 ?_;refine zl2 3 is' iy' hl (.n rfl) rfl rfl rfl rfl rfl (.t rfl) rfl (.t rfl) rfl (hra:=roffs rfl (.o 0 rfl rfl (by decide) (.q rfl .n))) ?_;intro va;obtain ⟨xg,hm,ho⟩:=bnd ho;refine run 7 ?_;refine zl2 3 is' iy' hm (.n rfl) rfl rfl rfl rfl rfl (.t rfl) rfl (.t rfl) rfl (hra:=roffs rfl (.o 1 rfl rfl (by decide) (.q rfl .n))) ?_;intro vb;obtain ⟨xh,hn,ho⟩:=bnd ho;refine run 6 ?_;refine zl2 3 is' iy' hn (.n rfl) rfl rfl rfl rfl rfl (.t rfl) rfl (.t rfl) rfl (hra:=roffs rfl (.o 2 rfl rfl (by decide) (.q rfl .n))) ?_;intro vc;refine run 2 ?_;refine zfy 3 2 (U27).sz rfl rfl (by exact Nat.le_of_ble_eq_true rfl) (.n rfl) rfl rfl (.t rfl) (.t rfl) (by rfl) ?_;refine run 2 ?_;refine zfy 3 1 (U27).sz rfl rfl (by exact Nat.le_of_ble_eq_true rfl) (.n rfl) rfl rfl (.t rfl) (.t rfl) (by rfl) ?_;refine run 2 ?_;refine zfy 3 0 (U27).sz rfl rfl (by exact Nat.le_of_ble_eq_true rfl) (.n rfl) rfl rfl (.t rfl) (.t rfl) (by rfl) ?_;exact lv [vc,vb,va] [3,0,1,2] ho
       ·refine run 1 ?_;refine zaN [6,13,21,1000017,2000023] (by kernel_rfl) ?_ (hdi:=rdists rfl (rowns rfl) (.c (.o (j:=0) rfl rfl) (.c (.q rfl) .n)) rfl);obtain ⟨xi,hp,ho⟩:=bnd ho;refine run 9 ?_;refine zl2 3 is' iy' hp (.n rfl) rfl rfl rfl rfl rfl (.t rfl) rfl (.t rfl) rfl (hra:=roffs rfl (.o 0 rfl rfl (by decide) (.q rfl .n))) ?_;intro vd;obtain ⟨xj,hr,ho⟩:=bnd ho;refine run 7 ?_;refine zl2 3 is' iy' hr (.n rfl) rfl rfl rfl rfl rfl (.t rfl) rfl (.t rfl) rfl (hra:=roffs rfl (.o 1 rfl rfl (by decide) (.q rfl .n))) ?_;intro ve;obtain ⟨xk,hs,ho⟩:=bnd ho;refine run 6 ?_;refine zl2 3 is' iy' hs (.n rfl) rfl rfl rfl rfl rfl (.t rfl) rfl (.t rfl) rfl (hra:=roffs rfl (.o 2 rfl rfl (by decide) (.q rfl .n))) ?_;intro vf;refine run 2 ?_;refine zfy 3 2 (U27).sz rfl rfl (by exact Nat.le_of_ble_eq_true rfl) (.n rfl) rfl rfl (.t rfl) (.t rfl) (by rfl) ?_;refine run 2 ?_;refine zfy 3 1 (U27).sz rfl rfl (by exact Nat.le_of_ble_eq_true rfl) (.n rfl) rfl rfl (.t rfl) (.t rfl) (by rfl) ?_;refine run 2 ?_;refine zfy 3 0 (U27).sz rfl rfl (by exact Nat.le_of_ble_eq_true rfl) (.n rfl) rfl rfl (.t rfl) (.t rfl) (by rfl) ?_;exact lv [vf,ve,vd] [3,0,1,2] ho
     ·exact lv [(gh ga 2),(gh ga 1),(gh ga 0)] [0,3,2,1] ho
    ·refine run 6 ?_;cases ho;refine zn1 (zhb 1 0 (q:=2) [] rfl rfl rfl rfl (by rfl) trivial) ?_;refine zn1 (zhb 1 0 (q:=3) [] rfl rfl rfl rfl (by rfl) trivial) ?_;refine zn1 (zhb 1 0 (q:=4) [] rfl rfl rfl rfl (by rfl) trivial) ?_;refine zn1 (zey (R:=zaD) (a:=(pa,way_1,ba.1,ba.2.1,ba.2.2,stops_4,())) 0 [17,150,10] (zt (zE rfl) (zt (zE rfl) (zt (zE rfl) (zt (zE rfl) (zt (zE rfl) (zt (zE rfl) zcs rfl) rfl) rfl) rfl) rfl) rfl) rfl rfl ⟨rfl,rfl,rfl,trivial⟩) ?_;refine zn1 (ziC (n:=10) rfl) ?_;exact zfx (zdh (.inr rfl) (.v rfl (.v rfl .n)) (by decide))
    ·exact rv ho
   ·exact rv ho⟩
instance i144 {m_0 x_1}:FI ktab 144 (zW m_0 x_1) [.val (zaQ zM) m_0,.val zr x_1] (fun out=>[wI out]):=fw
instance i193 {x_0}:FI ktab 193 (zda x_0) [vI x_0] (fun out=>[wB out]):=fw
instance i182 {x_0 target_1}:FI ktab 182 (zH x_0 target_1) [.val (zf (zj .i64)) x_0,vI target_1] (fun out=>[wI out.1,wB out.2]):=⟨fun out ho=>by
 delta zH at ho;refine fn fun _ _=>?_;obtain ⟨ta,ha,ho⟩:=bnd ho;refine glp ha [0,1,6] [] [] (fun s g=>([(7,vI s.1),(8,vI s.2)],[])) (fun b=>(.exit 0,fun g=>([(7,vI b)],[]))) [] (fun s6 g7 _ ho=>?_) fun ga=>?_
 ·exact we ho
 ·obtain ⟨ca,hc,ho⟩:=bnd ho;refine run 1 ?_;refine gcx ca [] [] (fun t=>(.normal,fun _=>([(4,vI t.1),(5,vB t.2)],[]))) ?_ fun _=>?_
  ·exact we hc
  ·exact rv ho⟩
instance i172 {r_0 x_1}:FI ktab 172 (zaO r_0 x_1) [.val (zaQ zaD) r_0,.val zr x_1] (fun out=>[wI out]):=fw
instance i208 {m_0}:FI ktab 208 (zbj m_0) [.val (zaQ zM) m_0] (fun out=>[wI out]):=fw
instance i194 {m_0 v_1 demand_2 slope_3}:FI ktab 194 (za7 m_0 v_1 demand_2 slope_3) [.val (zaQ zM) m_0,vI v_1,vI demand_2,vI slope_3] (fun out=>[wI out]):=fw
instance i195 {m_0 v_1 demand_2 slope_3}:FI ktab 195 (za0 m_0 v_1 demand_2 slope_3) [.val (zaQ zM) m_0,vI v_1,vI demand_2,vI slope_3] (fun out=>[wI out]):=fw
instance i196 {m_0 v_1 demand_2 slope_3}:FI ktab 196 (zbE m_0 v_1 demand_2 slope_3) [.val (zaQ zM) m_0,vI v_1,vI demand_2,vI slope_3] (fun out=>[wI out]):=fw
instance i197 {m_0 v_1 demand_2 slope_3}:FI ktab 197 (zbF m_0 v_1 demand_2 slope_3) [.val (zaQ zM) m_0,vI v_1,vI demand_2,vI slope_3] (fun out=>[wI out]):=fw
instance i183 {m_0 v_1 demand_2 slope_3}:FI ktab 183 (zcv m_0 v_1 demand_2 slope_3) [.val (zaQ zM) m_0,vI v_1,vI demand_2,vI slope_3] (fun out=>[.val (zjX 4 (zj .i64)) out]):=⟨fun out ho=>by
 delta zcv at ho;refine fn fun _ _=>?_;refine gal fun b1=>?_;refine run 3 ?_;refine zt4 (R:=(zj .i64)) (x:=0) ia' (zc:=[.int .i64 0,.int .i64 0,.int .i64 0,.int .i64 0]) (by kernel_rfl) (zarr (fun _=>zint) rfl) (by decide) (.n rfl) rfl rfl ?_;intro b2;refine run 5 ?_;refine zgM (X:=(Int×Int×Int)) (Y:=Int) (fun x=>[.val (zj .i64) x.1,.val (zj .i64) x.2.1,.val (zj .i64) x.2.2]) (fun y=>[.val (zj .i64) y]) (f:=(fun x=>za7 m_0 x.1 x.2.1 x.2.2)) (fun x y hf=>i194.ok _ hf) rfl (.n rfl) rfl rfl (.c (.t rfl) .n) .n ?_;refine run 1 ?_;refine zgM (X:=(Int×Int×Int)) (Y:=Int) (fun x=>[.val (zj .i64) x.1,.val (zj .i64) x.2.1,.val (zj .i64) x.2.2]) (fun y=>[.val (zj .i64) y]) (f:=(fun x=>za0 m_0 x.1 x.2.1 x.2.2)) (fun x y hf=>i195.ok _ hf) rfl (.n rfl) rfl rfl (.c (.t rfl) .n) .n ?_;refine run 1 ?_;refine zgM (X:=(Int×Int×Int)) (Y:=Int) (fun x=>[.val (zj .i64) x.1,.val (zj .i64) x.2.1,.val (zj .i64) x.2.2]) (fun y=>[.val (zj .i64) y]) (f:=(fun x=>zbE m_0 x.1 x.2.1 x.2.2)) (fun x y hf=>i196.ok _ hf) rfl (.n rfl) rfl rfl (.c (.t rfl) .n) .n ?_;refine run 1 ?_;refine zgM (X:=(Int×Int×Int)) (Y:=Int) (fun x=>[.val (zj .i64) x.1,.val (zj .i64) x.2.1,.val (zj .i64) x.2.2]) (fun y=>[.val (zj .i64) y]) (f:=(fun x=>zbF m_0 x.1 x.2.1 x.2.2)) (fun x y hf=>i197.ok _ hf) rfl (.n rfl) rfl rfl (.c (.t rfl) .n) .n ?_;refine zpg (R:=(rFn ktab (Int×Int×Int) Int (fun x=>[.val (zj .i64) x.1,.val (zj .i64) x.2.1,.val (zj .i64) x.2.2]) (fun y=>[.val (zj .i64) y]))) (zc:=[.nilfunc,.nilfunc,.nilfunc,.nilfunc]) ia' (by kernel_rfl) (by rfl) (.n rfl) rfl rfl (.c (.t rfl) (.c (.t rfl) (.c (.t rfl) (.c (.t rfl) .n)))) (by rfl) ?_
 obtain ⟨ta,ha,ho⟩:=bnd ho;refine glp ha [1,2,3,8,9,20] [1] [0,1] (fun s g=>([(21,vI s.1)],[((.slice b2 0 4 1 (some 4)),.row (zj .i64) s.2)])) (fun b=>(.exit 0,fun g=>([],[((.slice b2 0 4 1 (some 4)),.row (zj .i64) b)]))) [] (fun sa ga _ ho=>?_) fun gb=>?_
 ·refine gct ho (fun hc ho=>?_) fun hc ho=>?_
  ·obtain ⟨xa,he,ya,hd,ho⟩:=zfX ho;refine gcv hd ?_;obtain ⟨xb,hg,ho⟩:=bnd ho;exact lv [] [0,1] ho
  ·exact lv [] [0,1] ho
 ·refine run 2 ?_;refine zwr 0 (fun _ h=>by cases h<;>rfl) ia' rfl (.n rfl) rfl rfl (.t rfl) ?_;refine zgN 1 ia' rfl (by rfl) (by decide) (.n rfl) rfl rfl (.t rfl) (.t rfl) (by rfl) ?_;refine run 1 ?_;cases ho; exact zfx (zdh (.inr rfl) (.a 1 ia' rfl rfl .n) (by decide))⟩
instance i184 {m_0 x_1}:FI ktab 184 (zbn m_0 x_1) [.val (zaQ zM) m_0,.val zr x_1] (fun out=>[wI out]):=fw
instance i173 {m_0 x_1 demand_2 slope_3}:FI ktab 173 (zaE m_0 x_1 demand_2 slope_3) [.val (zaQ zM) m_0,.val zr x_1,vI demand_2,vI slope_3] (fun out=>[.val zaR out.1,wB out.2]):=⟨fun out ho=>by
 delta zaE at ho;refine fn fun _ _=>?_;refine gal fun b1=>?_;refine gcl ho fun y2 hy2 ho=>?_;refine gcl ho fun y3 hy3 ho=>?_;refine gal fun b4=>?_;refine zgN 0 ia' rfl (by rfl) (by decide) (.n rfl) rfl rfl (.t rfl) (.t rfl) (by rfl) ?_;refine zgz (zll (R:=(zj .i64)) 0 [10] (by decide) (by decide) rfl rfl ⟨rfl,trivial⟩) ?_;obtain ⟨x5,hx5,ho⟩:=bnd ho;refine run 3 ?_;refine zbf ia' hx5 (.n rfl) rfl rfl (.t rfl) (.i (by decide) (by decide)) ?_;obtain ⟨x6,hx6,ho⟩:=bnd ho;refine run 1 ?_;refine zbf ia' hx6 (.n rfl) rfl rfl (.t rfl) (.i (by decide) (by decide)) ?_;obtain ⟨x7,hx7,ho⟩:=bnd ho;refine run 2 ?_;refine zbf ia' hx7 (.n rfl) rfl rfl (.t rfl) (.i (by decide) (by decide)) ?_;obtain ⟨x8,hx8,ho⟩:=bnd ho;refine run 2 ?_;refine zbf ia' hx8 (.n rfl) rfl rfl (.t rfl) (.i (by decide) (by decide)) ?_;refine gal fun b9=>?_;obtain ⟨ca,ha,ho⟩:=bnd ho;refine run 3 ?_;refine gcx ca [0,5,8,10,11,12,13,14] [0,1] (fun t=>(.normal,fun _=>([(49,vB t)],[]))) ?_ fun _=>?_
 ·have ho:=ha;refine wbr ho (fun hc ho=>?_) fun hc ho=>?_
  ·exact lv [] [0,1] ho
  ·refine wbr ho (fun hd ho=>?_) fun hd ho=>?_
   ·exact lv [] [0,1] ho
   ·exact lv [] [0,1] ho
 ·refine gct ho (fun he ho=>?_) fun he ho=>?_
  ·refine run 21 ?_;refine zf4 (off:=0) (es':=[vI 0,vI (w64 (x_1.2.1+0))]) 0 iu' rfl zhq (by exact Nat.le_of_ble_eq_true rfl) (.n rfl) rfl rfl (.t rfl) (.t rfl) (by rfl) ?_;obtain ⟨xa,hf,ho⟩:=bnd ho;refine run 3 ?_;refine zbf ia' hf (.n rfl) rfl rfl (.t rfl) (.i (by decide) (by decide)) ?_;obtain ⟨xb,hg,ho⟩:=bnd ho;refine run 4 ?_;refine zbf ia' hg (.n rfl) rfl rfl (.t rfl) (.i (by decide) (by decide)) ?_;obtain ⟨xd,hh,ho⟩:=bnd ho;refine run 4 ?_;refine zbf ia' hh (.n rfl) rfl rfl (.t rfl) (.i (by decide) (by decide)) ?_;obtain ⟨xe,hi,ho⟩:=bnd ho;refine run 4 ?_;refine zbf ia' hi (.n rfl) rfl rfl (.t rfl) (.i (by decide) (by decide)) ?_;obtain ⟨xn,hj,ho⟩:=bnd ho;refine run 19 ?_;refine zbf ia' hj (.n rfl) rfl rfl (.t rfl) (.i (by decide) (by decide)) ?_;obtain ⟨xf,ht,xo,hk,ho⟩:=zfX ho;refine run 23 ?_;refine zbf ia' hk (.n rfl) rfl rfl (.t rfl) (.i (by decide) (by decide)) ?_;obtain ⟨xg,hu,ho⟩:=bnd ho;refine run 20 ?_;refine zaN [0] (by kernel_rfl) ?_;refine glb (((0,(w64 (x_1.2.1+0)),()),((w64 ((w64 (200*xa))*0)),(w64 ((w64 (200*xb))*0)),(w64 ((w64 (200*xd))*0)),(w64 ((w64 (200*xe))*0)),0,(w64 (x_1.1*x_1.1)),()),xf,xg,()):zbg) 0 ?_;exact we ho
  ·refine run 18 ?_;refine zf4 (off:=0) (es':=[vI (w64 (x_1.1+(w64 (100*(w64 ((w64 ((w64 (x5-x6))-x7))-x8)))))),vI (w64 (x_1.2.1+(w64 (x_1.1+(w64 (100*(w64 ((w64 ((w64 (x5-x6))-x7))-x8))))))))]) 0 iu' rfl zhq (by exact Nat.le_of_ble_eq_true rfl) (.n rfl) rfl rfl (.t rfl) (.t rfl) (by rfl) ?_;obtain ⟨xh,hl,ho⟩:=bnd ho;refine run 3 ?_;refine zbf ia' hl (.n rfl) rfl rfl (.t rfl) (.i (by decide) (by decide)) ?_;obtain ⟨xi,hm,ho⟩:=bnd ho;refine run 4 ?_;refine zbf ia' hm (.n rfl) rfl rfl (.t rfl) (.i (by decide) (by decide)) ?_;obtain ⟨xj,hn,ho⟩:=bnd ho;refine run 4 ?_;refine zbf ia' hn (.n rfl) rfl rfl (.t rfl) (.i (by decide) (by decide)) ?_;obtain ⟨xk,hp,ho⟩:=bnd ho;refine run 4 ?_;refine zbf ia' hp (.n rfl) rfl rfl (.t rfl) (.i (by decide) (by decide)) ?_;obtain ⟨xp,hr,ho⟩:=bnd ho;refine run 19 ?_;refine zbf ia' hr (.n rfl) rfl rfl (.t rfl) (.i (by decide) (by decide)) ?_;obtain ⟨xl,hv,xq,hs,ho⟩:=zfX ho;refine run 23 ?_;refine zbf ia' hs (.n rfl) rfl rfl (.t rfl) (.i (by decide) (by decide)) ?_;obtain ⟨xm,hw,ho⟩:=bnd ho;refine run 20 ?_;refine zaN [0] (by kernel_rfl) ?_;refine glb ((((w64 (x_1.1+(w64 (100*(w64 ((w64 ((w64 (x5-x6))-x7))-x8)))))),(w64 (x_1.2.1+(w64 (x_1.1+(w64 (100*(w64 ((w64 ((w64 (x5-x6))-x7))-x8)))))))),()),((w64 ((w64 (200*xh))*(w64 (x_1.1+(w64 (100*(w64 ((w64 ((w64 (x5-x6))-x7))-x8)))))))),(w64 ((w64 (200*xi))*(w64 (x_1.1+(w64 (100*(w64 ((w64 ((w64 (x5-x6))-x7))-x8)))))))),(w64 ((w64 (200*xj))*(w64 (x_1.1+(w64 (100*(w64 ((w64 ((w64 (x5-x6))-x7))-x8)))))))),(w64 ((w64 (200*xk))*(w64 (x_1.1+(w64 (100*(w64 ((w64 ((w64 (x5-x6))-x7))-x8)))))))),(w64 ((w64 (10000*(w64 ((w64 ((w64 (x5-x6))-x7))-x8))))*(w64 ((w64 ((w64 (x5-x6))-x7))-x8)))),0,()),xl,xm,()):zbg) 0 ?_
   exact we ho⟩
instance i198 {r_0 x_1}:FI ktab 198 (zcw r_0 x_1) [.val (zaQ zaD) r_0,.val zr x_1] (fun out=>[wI out]):=⟨fun out ho=>by
 delta zcw at ho;refine fn fun _ _=>?_;refine gcl ho fun y2 hy2 ho=>?_;refine gcl ho fun y3 hy3 ho=>?_;obtain ⟨ta,ha,ho⟩:=bnd ho;refine glp ha [0,5] [] [] (fun s g=>([(7,vI s.1),(8,vI s.2)],[])) (fun b=>(.exit 0,fun g=>([(7,vI b)],[]))) [] (fun s8 g9 _ ho=>?_) fun ga=>?_
 ·exact we ho
 ·exact we ho⟩
instance i185 {r_0 x_1 stop_2}:FI ktab 185 (zbG r_0 x_1 stop_2) [.val (zaQ zaD) r_0,.val zr x_1,vI stop_2] (fun out=>[wB out]):=⟨fun out ho=>by
 delta zbG at ho;refine fn fun _ _=>?_;obtain ⟨c9,hc9,ho⟩:=bnd ho;refine run 6 ?_;refine gcx c9 [] [] (fun t=>(.normal,fun _=>([(6,vB t)],[]))) ?_ fun _=>?_
 ·exact we hc9
 ·exact rv ho⟩
theorem zfd {σ τ:Type} {step:σ->(zb)->Option (σ⊕τ)} {yv:ze} {K:σ⊕τ->List ze->Sx.Obj} (hcb:zrB ktab yv (fun x=>[.val zr (x)]) step K) {s_:σ} {p_1 p_2 p_3 out} (ho:za4 step s_ p_1 p_2 p_3=some out) (b_1:Nat) (γ0:List ze):zkI ktab 199 [.raw yv,.raw (.ptr b_1 0),.val (zaQ (zaQ zM)) p_2,.val (zaQ (rFn ktab (zb) (Int) (fun x=>[.val zr (x)]) (fun y=>[.val (zj .i64) (y)]))) p_3] [(yv,K (.inl s_) γ0),(.ptr b_1 0,.box [vI (p_1.1),vI (p_1.2.1)])] [] (fun γ=>[(yv,K (out.1) (untup (gh γ 0))),(.ptr b_1 0,.box [vI (out.2.1),vI (out.2.2.1)])]):=by
 refine ziA (F:=Tryz.f199) (by rfl) (by rfl) (by rfl) (fun C=>?_);delta za4 at ho;obtain ⟨ta,ha,ho⟩:=bnd ho;refine gl2 ha ho [0,1,2,3] [] [0,1] (fun s g=>([(7,vI s.1)],[(yv,K s.2.1 (untup (gh g 0))),(.ptr b_1 0,.box [vI s.2.2.1,vI s.2.2.2])])) (fun b=>(.exit 0,fun g=>([],[(yv,K b.1 (untup (gh g 0))),(.ptr b_1 0,.box [vI b.2.1,vI b.2.2])]))) (fun b=>(.ret,fun g=>([],[(yv,K b.1 (untup (gh g 0))),(.ptr b_1 0,.box [vI b.2.1,vI b.2.2])]))) [.tuple γ0] (fun sa ga _ ho=>?_) (fun ba ho gb=>?_) fun bb ho gb=>?_
 ·refine gct ho (fun hc ho=>?_) fun hc ho=>?_
  ·refine gct ho (fun hd ho=>?_) fun hd ho=>?_
   ·exact lv [.tuple (untup (gh ga 0))] [0,1] ho
   ·refine run 2 ?_;refine zaN [1,3] (by kernel_rfl) ?_;refine glb (sa.2.2.1,sa.2.2.2,()) 1 ?_;refine glb (sa.2.2.1,sa.2.2.2,()) 1 ?_;obtain ⟨yb,he,ho⟩:=bnd ho;refine gcv he ?_;refine gcl ho fun ya hi ho=>?_;refine gal fun bc=>?_;refine gfz 1 zaR ya.1 0 [5] ?_;refine gct ho (fun hf ho=>?_) fun hf ho=>?_
    ·exact lv [.tuple (untup (gh ga 0))] [0,1] ho
    ·refine glb ya.1.1 1 ?_;obtain ⟨sb,hs37,ho⟩:=bnd ho;refine zgz (zrE (K:=K) 0 (zox hs37) rfl rfl) ?_;obtain ⟨yc,hg,ho⟩:=bnd ho;refine zow [0] [1] (fun _ h=>by cases h) hcb hg rfl rfl rfl (by decide) (.n rfl) rfl rfl rfl (.t rfl) (.c (.t rfl) .n) ?_;intro va;refine gct ho (fun hh ho=>?_) fun hh ho=>?_
     ·exact lv [.tuple va] [0,1] ho
     ·exact lv [.tuple va] [0,1] ho
  ·exact lv [.tuple (untup (gh ga 0))] [0,1] ho
 ·cases ho; exact id (zgO [0,1] [.tuple (untup (gh gb 0))] (.inl rfl) .n rfl (by decide))
 ·cases ho; exact id (zgO [0,1] [.tuple (untup (gh gb 0))] (.inr rfl) .n rfl (by decide))
theorem zfK {m_0 x_1 slope_2 out} (ho:zb6 m_0 x_1 slope_2=some out):zz3 ktab 186 [.val (zaQ zM) m_0,.val zr x_1,.val (rFn ktab (zb) (Int) (fun x=>[.val zr (x)]) (fun y=>[.val (zj .i64) (y)])) slope_2] 199 [.val (zj .i64) (out.1.1),.val (zj .i64) (out.1.2.1)] [.val (zaQ (zaQ zM)) (out.2.1),.val (zaQ (rFn ktab (zb) (Int) (fun x=>[.val zr (x)]) (fun y=>[.val (zj .i64) (y)]))) (out.2.2)]:=by
 refine zwz (F:=Tryz.f186) (by rfl) (by rfl) (by rfl) (fun C hC=>?_);delta zb6 at ho;refine run 3 ?_;refine xbo fun b1=>?_;refine run 1 ?_;refine zai rfl (.n rfl) rfl (e:=.raw .nilfunc) (fun z fr h s=>⟨_,rfl,by simp only [TE.ok]; rfl⟩) ?_;refine run 3 ?_;refine zou (.n rfl) rfl rfl .n (.c (.t rfl) (.c (.t rfl) (.c (.t rfl) .n))) ?_;refine run 2 ?_;cases ho; exact zfx (zwy 0 (.inr rfl) rfl rfl)
end Go.Ai.TabYtppebpagcocogaaGreat
