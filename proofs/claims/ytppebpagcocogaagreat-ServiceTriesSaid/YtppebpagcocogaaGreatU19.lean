/- Written by program: walks through functions. -/
import Derived.Test.YtppebpagcocogaaGreatU11
import Derived.Test.YtppebpagcocogaaGreatU18
set_option linter.unusedSimpArgs false
set_option linter.unusedVariables false
set_option linter.unusedSectionVars false
namespace Go.Ai.TabYtppebpagcocogaaGreat
open Go Go.Ai Go.Ai.Sx Go.Proofs
attribute [local irreducible] zr
set_option maxRecDepth 100000
set_option maxHeartbeats 4000000
instance i131 {p_0 way_1}:FI ktab 131 (zbZ p_0 way_1) [.val zaP p_0,.val (zb zW) way_1] (λout=>[wI out.1,wI out.2]):=⟨λout ho=>by
 delta zbZ at ho;refine fn λ_ _=>?_;refine gcl ho λy1 hy1 ho=>?_;obtain ⟨c5,hc5,ho⟩:=bnd ho;refine run 8 ?_;refine gcx c5 [1,6] [] (λt=>(.normal,λ_=>([(20,vB t)],[]))) ?_ λ_=>?_
 . have ho:=hc5;refine wbr ho (λhb6 ho=>?_) λhb6 ho=>?_
   . exact we ho
   . obtain ⟨p7,hp7,ho⟩:=bnd ho;refine run 6 ?_;refine ze8 (zcW (n:=16) hp7 rfl) ?_;exact we ho
 . refine gct ho (λhq9 ho=>?_) λhq9 ho=>?_
   . exact we ho
   . obtain ⟨pa,ha,ho⟩:=bnd ho;refine run 5 ?_;refine ze8 (zcW (n:=21) ha rfl) ?_;exact we ho⟩
instance i142 {n_0 low_1 high_2}:FI ktab 142 (zO n_0 low_1 high_2) [vI n_0,vI low_1,vI high_2] (λout=>[wB out]):=⟨λout ho=>by
 delta zO at ho;refine fn λ_ _=>?_;obtain ⟨c4,hc4,ho⟩:=bnd ho;refine run 5 ?_;refine gcx c4 [] [] (λt=>(.normal,λ_=>([(6,vB t)],[]))) ?_ λ_=>?_
 . exact we hc4
 . exact rv ho⟩
instance i136 {s_0 f_1}:FI ktab 136 (zbf s_0 f_1) [.val (zb (zj .i64)) s_0,.val (rFn ktab (Int) (Bool) (λx=>[.val (zj .i64) (x)]) (λy=>[.val zau (y)])) f_1] (λout=>[wI out]):=⟨λout ho=>by
 delta zbf at ho;refine fn λ_ _=>?_;obtain ⟨ta,ha,ho⟩:=bnd ho;refine gl2 ha ho [0,1,7] [] [] (λs g=>([(8,vI s)],[])) (λb=>(.exit 0,λg=>([],[]))) (λb=>(.ret,λg=>([(4,vI b)],[]))) [] (λs5 g6 _ ho=>?_) (λba ho ga=>?_) λbb ho ga=>?_
 . refine gct ho (λhq7 ho=>?_) λhq7 ho=>?_
   . obtain ⟨x8,hx8,y9,hy9,ho⟩:=zhr ho;refine gcv hy9 ?_;exact we ho
   . exact lv [] [] ho
 . exact we ho
 . exact rv ho⟩
instance i105 {s_0 f_1}:FI ktab 105 (zas s_0 f_1) [.val (zb (zj .i64)) s_0,.val (rFn ktab (Int) (Bool) (λx=>[.val (zj .i64) (x)]) (λy=>[.val zau (y)])) f_1] (λout=>[wB out]):=fw
instance i181 {g_0}:FI ktab 181 (zeT g_0) [vI g_0] (λout=>[wB out]):=fw
instance i170 {t_0}:FI ktab 170 (zdx t_0) [.val zbG t_0] (λout=>[wI out]):=⟨λout ho=>by
 delta zdx at ho;refine fn λ_ _=>?_;obtain ⟨ca,hc,ho⟩:=bnd ho;refine run 7 ?_;refine gcx ca [1] [] (λt=>(.normal,λ_=>([(54,vB t)],[]))) ?_ λ_=>?_
 . exact we hc
 . refine gct ho (λhd ho=>?_) λhd ho=>?_
   . exact we ho
   . obtain ⟨cc,he,ho⟩:=bnd ho;refine run 3 ?_;refine gcx cc [] [] (λt=>(.normal,λ_=>([(64,vB t)],[]))) ?_ λ_=>?_
     . have ho:=he;refine gcl ho λya hh ho=>?_;refine wbr ho (λha ho=>?_) λha ho=>?_
       . exact we ho
       . obtain ⟨yb,hg,ho⟩:=bnd ho;refine run 4 ?_;refine zj1 (i105.ok _ hg) (.v zjZ .n) rfl (.g rfl rfl (gf0 ha)) rfl rfl rfl .f (.c (.o (.t rfl)) (.c (.o (.fv (zhZ (λx y hf=>i181.ok _ hf) rfl))) .n)) ?_;exact we ho
     . exact we ho⟩
instance i141 {t_0 state_1}:FI ktab 141 (zdb t_0 state_1) [.val zbG t_0,vI state_1] (λout=>[.val (zfH zJ) out.1,wB out.2]):=⟨λout ho=>by
 delta zdb at ho;refine fn λ_ _=>?_;refine run 3 ?_;refine zaj rfl (.n rfl) rfl (e:=.val (zfH zJ) none) (λz fr h s=>⟨_,rfl,zc7⟩) ?_;obtain ⟨c4,hc4,ho⟩:=bnd ho;refine run 4 ?_;refine gcx c4 [1,2] [] (λt=>(.normal,λ_=>([(17,vB t)],[]))) ?_ λ_=>?_
 . exact we hc4
 . refine gct ho (λhq8 ho=>?_) λhq8 ho=>?_
   . refine run 2 ?_;refine zaj rfl (.n rfl) rfl (e:=.val (zfH zJ) none) (λz fr h s=>⟨_,rfl,zc7⟩) ?_;exact we ho
   . refine run 10 ?_;cases ho;refine znh (zma (n:=4) rfl) ?_;exact zd0 (zcT (.inr rfl) (.v rfl (.v rfl .n)) (by decide))⟩
instance i143 {p_0 rail_1}:FI ktab 143 (zbX p_0 rail_1) [.val zaP p_0,vI rail_1] (λout=>[wI out.1,wI out.2]):=⟨λout ho=>by
 delta zbX at ho;refine fn λ_ _=>?_;refine gcl ho λy1 hy1 ho=>?_;obtain ⟨c5,hc5,ho⟩:=bnd ho;refine run 8 ?_;refine gcx c5 [1,6] [] (λt=>(.normal,λ_=>([(21,vB t)],[]))) ?_ λ_=>?_
 . have ho:=hc5;refine wbr ho (λhb6 ho=>?_) λhb6 ho=>?_
   . exact we ho
   . obtain ⟨p7,hp7,ho⟩:=bnd ho;refine run 7 ?_;refine ze8 (zcW (n:=16) hp7 rfl) ?_;exact we ho
 . refine gct ho (λhq9 ho=>?_) λhq9 ho=>?_
   . exact we ho
   . obtain ⟨pa,ha,ho⟩:=bnd ho;refine run 4 ?_;refine ze8 (zcW (n:=22) ha rfl) ?_;exact we ho⟩
instance i121 {p_0 way_1 t_2 state_3 stops_4}:FI ktab 121 (zdy p_0 way_1 t_2 state_3 stops_4) [.val zaP p_0,.val (zb zW) way_1,.val zbG t_2,vI state_3,.val (zb (zj .i64)) stops_4] (λout=>[.val (zfH zap) out.1,wB out.2]):=⟨λout ho=>by
 delta zdy at ho;refine fn λ_ _=>?_;refine run 4 ?_;refine zaj rfl (.n rfl) rfl (e:=.val (zfH zap) none) (λz fr h s=>⟨_,rfl,zc7⟩) ?_;refine gcl ho λy1 hy1 ho=>?_;refine gcl ho λy2 hy2 ho=>?_;obtain ⟨ca,ha,ho⟩:=bnd ho;refine run 8 ?_;refine gcx ca [1,4,5,12] [] (λt=>(.normal,λ_=>([(66,vB t)],[]))) ?_ λ_=>?_
 . exact we ha
 . refine gct ho (λhc ho=>?_) λhc ho=>?_
   . refine run 2 ?_;refine zaj rfl (.n rfl) rfl (e:=.val (zfH zap) none) (λz fr h s=>⟨_,rfl,zc7⟩) ?_;exact we ho
   . obtain ⟨ta,hd,ho⟩:=bnd ho;refine gl2 hd ho [1,4,5,12] [] [] (λs g=>([(16,vI s)],[])) (λb=>(.exit 0,λg=>([],[]))) (λb=>(.ret,λg=>([(10,.val (zfH zap) b.1),(11,vB b.2)],[]))) [] (λsa gd _ ho=>?_) (λbc ho gb=>?_) λbd ho gb=>?_
     . refine gct ho (λhe ho=>?_) λhe ho=>?_
       . obtain ⟨xd,ht,xe,hu,ho⟩:=zhr ho;refine gct ho (λhf ho=>?_) λhf ho=>?_
         . refine run 2 ?_;refine zaj rfl (.n rfl) rfl (e:=.val (zfH zap) none) (λz fr h s=>⟨_,rfl,zc7⟩) ?_;exact we ho
         . exact we ho
       . exact lv [] [] ho
     . obtain ⟨pa,hg,ho⟩:=bnd ho;refine run 5 ?_;refine ze8 (zcW (n:=83) hg rfl) ?_;refine ziy (R:=zkd) zAp (.n rfl) rfl rfl rfl (.p (.t rfl) rfl (.p (.t rfl) rfl (.z (λ_=>zns) (.z (λ_=>zns) (.z (λ_=>zns) (.p (.t rfl) rfl (.n rfl))))))) ?_;refine xbo λbb=>?_;refine ze8 (zen (q:=2) 0 rfl rfl rfl) ?_;refine ze8 (zcS (zj .i64)) ?_;refine ze8 (zen (q:=3) 1 rfl rfl rfl) ?_;refine ze8 (zcS (zj .i64)) ?_;refine ze8 (zen (q:=4) 2 rfl rfl rfl) ?_;refine ze8 (zcS (zj .i64)) ?_;obtain ⟨tb,hh,ho⟩:=bnd ho;refine gl2 hh ho [5,17,88,89] [] [3,0,1,2] (λs g=>([(18,vI s.1),(90,vI s.2.1)],[(.ptr bb 0,.box [.val (z5 zJ) pa,.val (zb zW) way_1,.raw (gh g 2),.raw (gh g 1),.raw (gh g 0),.val (zb (zj .i64)) stops_4]),((gh g 0),.row (zj .i64) s.2.2.1),((gh g 1),.row (zj .i64) s.2.2.2.1),((gh g 2),.row (zj .i64) s.2.2.2.2)])) (λb=>(.exit 2,λg=>([],[(.ptr bb 0,.box [.val (z5 zJ) pa,.val (zb zW) way_1,.raw (gh g 0),.raw (gh g 1),.raw (gh g 2),.val (zb (zj .i64)) stops_4]),((gh g 0),.row (zj .i64) b.1),((gh g 1),.row (zj .i64) b.2.1),((gh g 2),.row (zj .i64) b.2.2)]))) (λb=>(.ret,λg=>([(10,.val (zfH zap) b.1),(11,vB b.2.1)],[]))) [.nilslice,.nilslice,.nilslice] (λsb ga _ ho=>?_) (λba ho gc=>?_) λbe ho gc=>?_
       . refine gct ho (λhi ho=>?_) λhi ho=>?_
         . obtain ⟨xa,hv,ho⟩:=bnd ho;refine gal λbf=>?_;refine gfz 1 zW xa 0 [20] ?_;refine gcl ho λya hw ho=>?_;refine gct ho (λhj ho=>?_) λhj ho=>?_
           . refine run 2 ?_;refine zaj rfl (.n rfl) rfl (e:=.val (zfH zap) none) (λz fr h s=>⟨_,rfl,zc7⟩) ?_;exact lv [(gh ga 2),(gh ga 1),(gh ga 0)] [] ho
           . obtain ⟨xb,hy,ho⟩:=bnd ho;refine gal λbg=>?_;refine gfz 1 zdS xb 0 [23] ?_;refine gct ho (λhk ho=>?_) λhk ho=>?_
             . refine run 5 ?_;refine zar [6,13,21,1000017,2000023] (by kernel_rfl) ?_ (hdi:=rdists rfl (rowns rfl) (.c (.o (j:=0) rfl rfl) (.c (.q rfl) .n)) rfl);obtain ⟨xf,hl,ho⟩:=bnd ho;refine run 9 ?_;refine zl4 3 is' iy' hl (.n rfl) rfl rfl rfl rfl rfl (.t rfl) rfl (.t rfl) rfl (hra:=roffs rfl (.o 0 rfl rfl (by decide) (.q rfl .n))) ?_;intro va;obtain ⟨xg,hm,ho⟩:=bnd ho;refine run 7 ?_;refine zl4 3 is' iy' hm (.n rfl) rfl rfl rfl rfl rfl (.t rfl) rfl (.t rfl) rfl (hra:=roffs rfl (.o 1 rfl rfl (by decide) (.q rfl .n))) ?_;intro vb;obtain ⟨xh,hn,ho⟩:=bnd ho;refine run 6 ?_;refine zl4 3 is' iy' hn (.n rfl) rfl rfl rfl rfl rfl (.t rfl) rfl (.t rfl) rfl (hra:=roffs rfl (.o 2 rfl rfl (by decide) (.q rfl .n))) ?_;intro vc;refine run 2 ?_;refine zb4 3 2 (U27).sz rfl rfl (by exact Nat.le_of_ble_eq_true rfl) (.n rfl) rfl rfl (.t rfl) (.t rfl) (by rfl) ?_;refine run 2 ?_;refine zb4 3 1 (U27).sz rfl rfl (by exact Nat.le_of_ble_eq_true rfl) (.n rfl) rfl rfl (.t rfl) (.t rfl) (by rfl) ?_;refine run 2 ?_;refine zb4 3 0 (U27).sz rfl rfl (by exact Nat.le_of_ble_eq_true rfl) (.n rfl) rfl rfl (.t rfl) (.t rfl) (by rfl) ?_;exact lv [vc,vb,va] [3,0,1,2] ho
             . refine run 1 ?_;refine zar [6,13,21,1000017,2000023] (by kernel_rfl) ?_ (hdi:=rdists rfl (rowns rfl) (.c (.o (j:=0) rfl rfl) (.c (.q rfl) .n)) rfl);obtain ⟨xi,hp,ho⟩:=bnd ho;refine run 9 ?_;refine zl4 3 is' iy' hp (.n rfl) rfl rfl rfl rfl rfl (.t rfl) rfl (.t rfl) rfl (hra:=roffs rfl (.o 0 rfl rfl (by decide) (.q rfl .n))) ?_;intro vd;obtain ⟨xj,hr,ho⟩:=bnd ho;refine run 7 ?_;refine zl4 3 is' iy' hr (.n rfl) rfl rfl rfl rfl rfl (.t rfl) rfl (.t rfl) rfl (hra:=roffs rfl (.o 1 rfl rfl (by decide) (.q rfl .n))) ?_;intro ve;obtain ⟨xk,hs,ho⟩:=bnd ho;refine run 6 ?_;refine zl4 3 is' iy' hs (.n rfl) rfl rfl rfl rfl rfl (.t rfl) rfl (.t rfl) rfl (hra:=roffs rfl (.o 2 rfl rfl (by decide) (.q rfl .n))) ?_;intro vf;refine run 2 ?_;refine zb4 3 2 (U27).sz rfl rfl (by exact Nat.le_of_ble_eq_true rfl) (.n rfl) rfl rfl (.t rfl) (.t rfl) (by rfl) ?_;refine run 2 ?_;refine zb4 3 1 (U27).sz rfl rfl (by exact Nat.le_of_ble_eq_true rfl) (.n rfl) rfl rfl (.t rfl) (.t rfl) (by rfl) ?_;refine run 2 ?_;refine zb4 3 0 (U27).sz rfl rfl (by exact Nat.le_of_ble_eq_true rfl) (.n rfl) rfl rfl (.t rfl) (.t rfl) (by rfl) ?_;exact lv [vf,ve,vd] [3,0,1,2] ho
         . exact lv [(gh ga 2),(gh ga 1),(gh ga 0)] [0,3,2,1] ho
       . refine run 6 ?_;cases ho;refine znh (zcV 1 0 (q:=2) [] rfl rfl rfl rfl (by rfl) trivial) ?_;refine znh (zcV 1 0 (q:=3) [] rfl rfl rfl rfl (by rfl) trivial) ?_;refine znh (zcV 1 0 (q:=4) [] rfl rfl rfl rfl (by rfl) trivial) ?_;refine znh (ze9 (R:=zap) (a:=(pa,way_1,ba.1,ba.2.1,ba.2.2,stops_4,())) 0 [17,150,10] (zq (zt rfl) (zq (zt rfl) (zq (zt rfl) (zq (zt rfl) (zq (zt rfl) (zq (zt rfl) za7 rfl) rfl) rfl) rfl) rfl) rfl) rfl rfl ⟨rfl,rfl,rfl,trivial⟩) ?_;refine znh (zma (n:=10) rfl) ?_;exact zd0 (zcT (.inr rfl) (.v rfl (.v rfl .n)) (by decide))
       . exact rv ho
     . exact rv ho⟩
instance i144 {m_0 x_1}:FI ktab 144 (zR m_0 x_1) [.val (z5 zJ) m_0,.val zu x_1] (λout=>[wI out]):=fw
instance i193 {x_0}:FI ktab 193 (zc0 x_0) [vI x_0] (λout=>[wB out]):=fw
instance i182 {x_0 target_1}:FI ktab 182 (zE x_0 target_1) [.val (zb (zj .i64)) x_0,vI target_1] (λout=>[wI out.1,wB out.2]):=⟨λout ho=>by
 delta zE at ho;refine fn λ_ _=>?_;obtain ⟨ta,ha,ho⟩:=bnd ho;refine glp ha [0,1,6] [] [] (λs g=>([(7,vI s.1),(8,vI s.2)],[])) (λb=>(.exit 0,λg=>([(7,vI b)],[]))) [] (λs6 g7 _ ho=>?_) λga=>?_
 . exact we ho
 . obtain ⟨ca,hc,ho⟩:=bnd ho;refine run 1 ?_;refine gcx ca [] [] (λt=>(.normal,λ_=>([(4,vI t.1),(5,vB t.2)],[]))) ?_ λ_=>?_
   . exact we hc
   . exact rv ho⟩
instance i172 {r_0 x_1}:FI ktab 172 (zaA r_0 x_1) [.val (z5 zap) r_0,.val zu x_1] (λout=>[wI out]):=fw
instance i208 {m_0}:FI ktab 208 (za4 m_0) [.val (z5 zJ) m_0] (λout=>[wI out]):=fw
instance i194 {m_0 v_1 demand_2 slope_3}:FI ktab 194 (zaU m_0 v_1 demand_2 slope_3) [.val (z5 zJ) m_0,vI v_1,vI demand_2,vI slope_3] (λout=>[wI out]):=fw
instance i195 {m_0 v_1 demand_2 slope_3}:FI ktab 195 (zaM m_0 v_1 demand_2 slope_3) [.val (z5 zJ) m_0,vI v_1,vI demand_2,vI slope_3] (λout=>[wI out]):=fw
instance i196 {m_0 v_1 demand_2 slope_3}:FI ktab 196 (zbr m_0 v_1 demand_2 slope_3) [.val (z5 zJ) m_0,vI v_1,vI demand_2,vI slope_3] (λout=>[wI out]):=fw
instance i197 {m_0 v_1 demand_2 slope_3}:FI ktab 197 (zbs m_0 v_1 demand_2 slope_3) [.val (z5 zJ) m_0,vI v_1,vI demand_2,vI slope_3] (λout=>[wI out]):=fw
instance i183 {m_0 v_1 demand_2 slope_3}:FI ktab 183 (zcg m_0 v_1 demand_2 slope_3) [.val (z5 zJ) m_0,vI v_1,vI demand_2,vI slope_3] (λout=>[.val (zjT 4 (zj .i64)) out]):=⟨λout ho=>by
 delta zcg at ho;refine fn λ_ _=>?_;refine gal λb1=>?_;refine run 3 ?_;refine zt9 (R:=(zj .i64)) (x:=0) ia' (zc:=[.int .i64 0,.int .i64 0,.int .i64 0,.int .i64 0]) (by kernel_rfl) (zarr (λ_=>zint) rfl) (by decide) (.n rfl) rfl rfl ?_;intro b2;refine run 5 ?_;refine zi4 (X:=(Int×Int×Int)) (Y:=Int) (λx=>[.val (zj .i64) x.1,.val (zj .i64) x.2.1,.val (zj .i64) x.2.2]) (λy=>[.val (zj .i64) y]) (f:=(λx=>zaU m_0 x.1 x.2.1 x.2.2)) (λx y hf=>i194.ok _ hf) rfl (.n rfl) rfl rfl (.c (.t rfl) .n) .n ?_;refine run 1 ?_;refine zi4 (X:=(Int×Int×Int)) (Y:=Int) (λx=>[.val (zj .i64) x.1,.val (zj .i64) x.2.1,.val (zj .i64) x.2.2]) (λy=>[.val (zj .i64) y]) (f:=(λx=>zaM m_0 x.1 x.2.1 x.2.2)) (λx y hf=>i195.ok _ hf) rfl (.n rfl) rfl rfl (.c (.t rfl) .n) .n ?_;refine run 1 ?_;refine zi4 (X:=(Int×Int×Int)) (Y:=Int) (λx=>[.val (zj .i64) x.1,.val (zj .i64) x.2.1,.val (zj .i64) x.2.2]) (λy=>[.val (zj .i64) y]) (f:=(λx=>zbr m_0 x.1 x.2.1 x.2.2)) (λx y hf=>i196.ok _ hf) rfl (.n rfl) rfl rfl (.c (.t rfl) .n) .n ?_;refine run 1 ?_;refine zi4 (X:=(Int×Int×Int)) (Y:=Int) (λx=>[.val (zj .i64) x.1,.val (zj .i64) x.2.1,.val (zj .i64) x.2.2]) (λy=>[.val (zj .i64) y]) (f:=(λx=>zbs m_0 x.1 x.2.1 x.2.2)) (λx y hf=>i197.ok _ hf) rfl (.n rfl) rfl rfl (.c (.t rfl) .n) .n ?_;refine zpx (R:=(rFn ktab (Int×Int×Int) Int (λx=>[.val (zj .i64) x.1,.val (zj .i64) x.2.1,.val (zj .i64) x.2.2]) (λy=>[.val (zj .i64) y]))) (zc:=[.nilfunc,.nilfunc,.nilfunc,.nilfunc]) ia' (by kernel_rfl) (by rfl) (.n rfl) rfl rfl (.c (.t rfl) (.c (.t rfl) (.c (.t rfl) (.c (.t rfl) .n)))) (by rfl) ?_
 obtain ⟨ta,ha,ho⟩:=bnd ho;refine glp ha [1,2,3,8,9,20] [1] [0,1] (λs g=>([(21,vI s.1)],[((.slice b2 0 4 1 (some 4)),.row (zj .i64) s.2)])) (λb=>(.exit 0,λg=>([],[((.slice b2 0 4 1 (some 4)),.row (zj .i64) b)]))) [] (λsa ga _ ho=>?_) λgb=>?_
 . refine gct ho (λhc ho=>?_) λhc ho=>?_
   . obtain ⟨xa,he,ya,hd,ho⟩:=zhr ho;refine gcv hd ?_;obtain ⟨xb,hg,ho⟩:=bnd ho;exact lv [] [0,1] ho
   . exact lv [] [0,1] ho
 . refine run 2 ?_;refine zwC 0 (λ_ h=>by cases h<;>rfl) ia' rfl (.n rfl) rfl rfl (.t rfl) ?_;refine zgF 1 ia' rfl (by rfl) (by decide) (.n rfl) rfl rfl (.t rfl) (.t rfl) (by rfl) ?_;refine run 1 ?_;cases ho; exact zd0 (zcT (.inr rfl) (.a 1 ia' rfl rfl .n) (by decide))⟩
instance i184 {m_0 x_1}:FI ktab 184 (za9 m_0 x_1) [.val (z5 zJ) m_0,.val zu x_1] (λout=>[wI out]):=fw
instance i173 {m_0 x_1 demand_2 slope_3}:FI ktab 173 (zaq m_0 x_1 demand_2 slope_3) [.val (z5 zJ) m_0,.val zu x_1,vI demand_2,vI slope_3] (λout=>[.val zaB out.1,wB out.2]):=⟨λout ho=>by
 delta zaq at ho;refine fn λ_ _=>?_;refine gal λb1=>?_;refine gcl ho λy2 hy2 ho=>?_;refine gcl ho λy3 hy3 ho=>?_;refine gal λb4=>?_;refine zgF 0 ia' rfl (by rfl) (by decide) (.n rfl) rfl rfl (.t rfl) (.t rfl) (by rfl) ?_;refine ze8 (zlo (R:=(zj .i64)) 0 [10] (by decide) (by decide) rfl rfl ⟨rfl,trivial⟩) ?_;obtain ⟨x5,hx5,ho⟩:=bnd ho;refine run 3 ?_;refine zbT ia' hx5 (.n rfl) rfl rfl (.t rfl) (.i (by decide) (by decide)) ?_;obtain ⟨x6,hx6,ho⟩:=bnd ho;refine run 1 ?_;refine zbT ia' hx6 (.n rfl) rfl rfl (.t rfl) (.i (by decide) (by decide)) ?_;obtain ⟨x7,hx7,ho⟩:=bnd ho;refine run 2 ?_;refine zbT ia' hx7 (.n rfl) rfl rfl (.t rfl) (.i (by decide) (by decide)) ?_;obtain ⟨x8,hx8,ho⟩:=bnd ho;refine run 2 ?_;refine zbT ia' hx8 (.n rfl) rfl rfl (.t rfl) (.i (by decide) (by decide)) ?_;refine gal λb9=>?_;obtain ⟨ca,ha,ho⟩:=bnd ho;refine run 3 ?_;refine gcx ca [0,5,8,10,11,12,13,14] [0,1] (λt=>(.normal,λ_=>([(49,vB t)],[]))) ?_ λ_=>?_
 . have ho:=ha;refine wbr ho (λhc ho=>?_) λhc ho=>?_
   . exact lv [] [0,1] ho
   . refine wbr ho (λhd ho=>?_) λhd ho=>?_
     . exact lv [] [0,1] ho
     . exact lv [] [0,1] ho
 . refine gct ho (λhe ho=>?_) λhe ho=>?_
   . refine run 21 ?_;refine zfQ (off:=0) (es':=[vI 0,vI (w64 (x_1.2.1+0))]) 0 iu' rfl zg9 (by exact Nat.le_of_ble_eq_true rfl) (.n rfl) rfl rfl (.t rfl) (.t rfl) (by rfl) ?_;obtain ⟨xa,hf,ho⟩:=bnd ho;refine run 3 ?_;refine zbT ia' hf (.n rfl) rfl rfl (.t rfl) (.i (by decide) (by decide)) ?_;obtain ⟨xb,hg,ho⟩:=bnd ho;refine run 4 ?_;refine zbT ia' hg (.n rfl) rfl rfl (.t rfl) (.i (by decide) (by decide)) ?_;obtain ⟨xd,hh,ho⟩:=bnd ho;refine run 4 ?_;refine zbT ia' hh (.n rfl) rfl rfl (.t rfl) (.i (by decide) (by decide)) ?_;obtain ⟨xe,hi,ho⟩:=bnd ho;refine run 4 ?_;refine zbT ia' hi (.n rfl) rfl rfl (.t rfl) (.i (by decide) (by decide)) ?_;obtain ⟨xn,hj,ho⟩:=bnd ho;refine run 19 ?_;refine zbT ia' hj (.n rfl) rfl rfl (.t rfl) (.i (by decide) (by decide)) ?_;obtain ⟨xf,ht,xo,hk,ho⟩:=zhr ho;refine run 23 ?_;refine zbT ia' hk (.n rfl) rfl rfl (.t rfl) (.i (by decide) (by decide)) ?_;obtain ⟨xg,hu,ho⟩:=bnd ho;refine run 20 ?_;refine zar [0] (by kernel_rfl) ?_;refine glb (((0,(w64 (x_1.2.1+0)),()),((w64 ((w64 (200*xa))*0)),(w64 ((w64 (200*xb))*0)),(w64 ((w64 (200*xd))*0)),(w64 ((w64 (200*xe))*0)),0,(w64 (x_1.1*x_1.1)),()),xf,xg,()):zaZ) 0 ?_;exact we ho
   . refine run 18 ?_;refine zfQ (off:=0) (es':=[vI (w64 (x_1.1+(w64 (100*(w64 ((w64 ((w64 (x5-x6))-x7))-x8)))))),vI (w64 (x_1.2.1+(w64 (x_1.1+(w64 (100*(w64 ((w64 ((w64 (x5-x6))-x7))-x8))))))))]) 0 iu' rfl zg9 (by exact Nat.le_of_ble_eq_true rfl) (.n rfl) rfl rfl (.t rfl) (.t rfl) (by rfl) ?_;obtain ⟨xh,hl,ho⟩:=bnd ho;refine run 3 ?_;refine zbT ia' hl (.n rfl) rfl rfl (.t rfl) (.i (by decide) (by decide)) ?_;obtain ⟨xi,hm,ho⟩:=bnd ho;refine run 4 ?_;refine zbT ia' hm (.n rfl) rfl rfl (.t rfl) (.i (by decide) (by decide)) ?_;obtain ⟨xj,hn,ho⟩:=bnd ho;refine run 4 ?_;refine zbT ia' hn (.n rfl) rfl rfl (.t rfl) (.i (by decide) (by decide)) ?_;obtain ⟨xk,hp,ho⟩:=bnd ho;refine run 4 ?_;refine zbT ia' hp (.n rfl) rfl rfl (.t rfl) (.i (by decide) (by decide)) ?_;obtain ⟨xp,hr,ho⟩:=bnd ho;refine run 19 ?_;refine zbT ia' hr (.n rfl) rfl rfl (.t rfl) (.i (by decide) (by decide)) ?_;obtain ⟨xl,hv,xq,hs,ho⟩:=zhr ho;refine run 23 ?_;refine zbT ia' hs (.n rfl) rfl rfl (.t rfl) (.i (by decide) (by decide)) ?_;obtain ⟨xm,hw,ho⟩:=bnd ho;refine run 20 ?_;refine zar [0] (by kernel_rfl) ?_;refine glb ((((w64 (x_1.1+(w64 (100*(w64 ((w64 ((w64 (x5-x6))-x7))-x8)))))),(w64 (x_1.2.1+(w64 (x_1.1+(w64 (100*(w64 ((w64 ((w64 (x5-x6))-x7))-x8)))))))),()),((w64 ((w64 (200*xh))*(w64 (x_1.1+(w64 (100*(w64 ((w64 ((w64 (x5-x6))-x7))-x8)))))))),(w64 ((w64 (200*xi))*(w64 (x_1.1+(w64 (100*(w64 ((w64 ((w64 (x5-x6))-x7))-x8)))))))),(w64 ((w64 (200*xj))*(w64 (x_1.1+(w64 (100*(w64 ((w64 ((w64 (x5-x6))-x7))-x8)))))))),(w64 ((w64 (200*xk))*(w64 (x_1.1+(w64 (100*(w64 ((w64 ((w64 (x5-x6))-x7))-x8)))))))),(w64 ((w64 (10000*(w64 ((w64 ((w64 (x5-x6))-x7))-x8))))*(w64 ((w64 ((w64 (x5-x6))-x7))-x8)))),0,()),xl,xm,()):zaZ) 0 ?_
     exact we ho⟩
instance i198 {r_0 x_1}:FI ktab 198 (zch r_0 x_1) [.val (z5 zap) r_0,.val zu x_1] (λout=>[wI out]):=⟨λout ho=>by
 delta zch at ho;refine fn λ_ _=>?_;refine gcl ho λy2 hy2 ho=>?_;refine gcl ho λy3 hy3 ho=>?_;obtain ⟨ta,ha,ho⟩:=bnd ho;refine glp ha [0,5] [] [] (λs g=>([(7,vI s.1),(8,vI s.2)],[])) (λb=>(.exit 0,λg=>([(7,vI b)],[]))) [] (λs8 g9 _ ho=>?_) λga=>?_
 . exact we ho
 . exact we ho⟩
instance i185 {r_0 x_1 stop_2}:FI ktab 185 (zbt r_0 x_1 stop_2) [.val (z5 zap) r_0,.val zu x_1,vI stop_2] (λout=>[wB out]):=⟨λout ho=>by
 delta zbt at ho;refine fn λ_ _=>?_;obtain ⟨c9,hc9,ho⟩:=bnd ho;refine run 6 ?_;refine gcx c9 [] [] (λt=>(.normal,λ_=>([(6,vB t)],[]))) ?_ λ_=>?_
 . exact we hc9
 . exact rv ho⟩
theorem ze4 {σ τ:Type} {step:σ->(zd)->Option (σ⊕τ)} {yv:ze} {K:σ⊕τ->List ze->Sx.Obj} (hcb:zua ktab yv (λx=>[.val zu (x)]) step K) {s_:σ} {p_1 p_2 p_3 out} (ho:zaS step s_ p_1 p_2 p_3=some out) (b_1:Nat) (γ0:List ze):zjn ktab 199 [.raw yv,.raw (.ptr b_1 0),.val (z5 (z5 zJ)) p_2,.val (z5 (rFn ktab (zd) (Int) (λx=>[.val zu (x)]) (λy=>[.val (zj .i64) (y)]))) p_3] [(yv,K (.inl s_) γ0),(.ptr b_1 0,.box [vI (p_1.1),vI (p_1.2.1)])] [] (λγ=>[(yv,K (out.1) (untup (gh γ 0))),(.ptr b_1 0,.box [vI (out.2.1),vI (out.2.2.1)])]):=by
 refine zho (F:=Tryz.f199) (by rfl) (by rfl) (by rfl) (λC=>?_);delta zaS at ho;obtain ⟨ta,ha,ho⟩:=bnd ho;refine gl2 ha ho [0,1,2,3] [] [0,1] (λs g=>([(7,vI s.1)],[(yv,K s.2.1 (untup (gh g 0))),(.ptr b_1 0,.box [vI s.2.2.1,vI s.2.2.2])])) (λb=>(.exit 0,λg=>([],[(yv,K b.1 (untup (gh g 0))),(.ptr b_1 0,.box [vI b.2.1,vI b.2.2])]))) (λb=>(.ret,λg=>([],[(yv,K b.1 (untup (gh g 0))),(.ptr b_1 0,.box [vI b.2.1,vI b.2.2])]))) [.tuple γ0] (λsa ga _ ho=>?_) (λba ho gb=>?_) λbb ho gb=>?_
 . refine gct ho (λhc ho=>?_) λhc ho=>?_
   . refine gct ho (λhd ho=>?_) λhd ho=>?_
     . exact lv [.tuple (untup (gh ga 0))] [0,1] ho
     . refine run 2 ?_;refine zar [1,3] (by kernel_rfl) ?_;refine glb (sa.2.2.1,sa.2.2.2,()) 1 ?_;refine glb (sa.2.2.1,sa.2.2.2,()) 1 ?_;obtain ⟨yb,he,ho⟩:=bnd ho;refine gcv he ?_;refine gcl ho λya hi ho=>?_;refine gal λbc=>?_;refine gfz 1 zaB ya.1 0 [5] ?_;refine gct ho (λhf ho=>?_) λhf ho=>?_
       . exact lv [.tuple (untup (gh ga 0))] [0,1] ho
       . refine glb ya.1.1 1 ?_;obtain ⟨sb,hs37,ho⟩:=bnd ho;refine ze8 (zvC (K:=K) 0 (zrN hs37) rfl rfl) ?_;obtain ⟨yc,hg,ho⟩:=bnd ho;refine zrL [0] [1] (λ_ h=>by cases h) hcb hg rfl rfl rfl (by decide) (.n rfl) rfl rfl rfl (.t rfl) (.c (.t rfl) .n) ?_;intro va;refine gct ho (λhh ho=>?_) λhh ho=>?_
         . exact lv [.tuple va] [0,1] ho
         . exact lv [.tuple va] [0,1] ho
   . exact lv [.tuple (untup (gh ga 0))] [0,1] ho
 . cases ho; exact id (zdq [0,1] [.tuple (untup (gh gb 0))] (.inl rfl) .n rfl (by decide))
 . cases ho; exact id (zdq [0,1] [.tuple (untup (gh gb 0))] (.inr rfl) .n rfl (by decide))
theorem zfx {m_0 x_1 slope_2 out} (ho:zbU m_0 x_1 slope_2=some out):zAd ktab 186 [.val (z5 zJ) m_0,.val zu x_1,.val (rFn ktab (zd) (Int) (λx=>[.val zu (x)]) (λy=>[.val (zj .i64) (y)])) slope_2] 199 [.val (zj .i64) (out.1.1),.val (zj .i64) (out.1.2.1)] [.val (z5 (z5 zJ)) (out.2.1),.val (z5 (rFn ktab (zd) (Int) (λx=>[.val zu (x)]) (λy=>[.val (zj .i64) (y)]))) (out.2.2)]:=by
 refine zwM (F:=Tryz.f186) (by rfl) (by rfl) (by rfl) (λC hC=>?_);delta zbU at ho;refine run 3 ?_;refine xbo λb1=>?_;refine run 1 ?_;refine zaj rfl (.n rfl) rfl (e:=.raw .nilfunc) (λz fr h s=>⟨_,rfl,by simp only [TE.ok]; rfl⟩) ?_;refine run 3 ?_;refine zl6 (.n rfl) rfl rfl .n (.c (.t rfl) (.c (.t rfl) (.c (.t rfl) .n))) ?_;refine run 2 ?_;cases ho; exact zd0 (zwL 0 (.inr rfl) rfl rfl)
end Go.Ai.TabYtppebpagcocogaaGreat