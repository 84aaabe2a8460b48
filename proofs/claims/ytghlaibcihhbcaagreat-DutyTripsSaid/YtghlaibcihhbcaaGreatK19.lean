/- Written by program: walks through functions. -/
import Derived.Test.YtghlaibcihhbcaaGreatK11
import Derived.Test.YtghlaibcihhbcaaGreatK17
import Derived.Test.YtghlaibcihhbcaaGreatK18
set_option linter.unusedSimpArgs false
set_option linter.unusedVariables false
set_option linter.unusedSectionVars false
namespace Go.Ai.TabYtghlaibcihhbcaaGreat
open Go Go.Ai Go.Ai.Sx Go.Proofs
attribute [local irreducible] zm
set_option maxRecDepth 100000
set_option maxHeartbeats 4000000
instance i111 {p_0 way_1}:FI ktab 111 (zbN p_0 way_1) [.val zbJ p_0,.val (zd z5) way_1] (λout=>[wI out.1,wI out.2]):=⟨λout ho=>by
 delta zbN at ho;refine fn λ_ _=>?_;refine gcl ho λy1 hy1 ho=>?_;obtain ⟨c5,hc5,ho⟩:=bnd ho;refine run 8 ?_;refine gcx c5 [1,6] [] (λt=>(.normal,λ_=>([(20,vB t)],[]))) ?_ λ_=>?_
 . have ho:=hc5;refine wbr ho (λhb6 ho=>?_) λhb6 ho=>?_
   . exact we ho
   . obtain ⟨p7,hp7,ho⟩:=bnd ho;refine run 6 ?_;refine zeM (zct (n:=16) hp7 rfl) ?_;exact we ho
 . refine gct ho (λhq9 ho=>?_) λhq9 ho=>?_
   . exact we ho
   . obtain ⟨pa,ha,ho⟩:=bnd ho;refine run 5 ?_;refine zeM (zct (n:=21) ha rfl) ?_;exact we ho⟩
instance i173 {n_0 low_1 high_2}:FI ktab 173 (zP n_0 low_1 high_2) [vI n_0,vI low_1,vI high_2] (λout=>[wB out]):=⟨λout ho=>by
 delta zP at ho;refine fn λ_ _=>?_;obtain ⟨c2,hc2,ho⟩:=bnd ho;refine run 5 ?_;refine gcx c2 [] [] (λt=>(.normal,λ_=>([(6,vB t)],[]))) ?_ λ_=>?_
 . exact we hc2
 . exact rv ho⟩
instance i201 {g_0}:FI ktab 201 (ze6 g_0) [vI g_0] (λout=>[wB out]):=fw
instance i187 {t_0}:FI ktab 187 (zdD t_0) [.val zbG t_0] (λout=>[wI out]):=⟨λout ho=>by
 delta zdD at ho;refine fn λ_ _=>?_;obtain ⟨ca,hc,ho⟩:=bnd ho;refine run 7 ?_;refine gcx ca [1] [] (λt=>(.normal,λ_=>([(54,vB t)],[]))) ?_ λ_=>?_
 . exact we hc
 . refine gct ho (λhd ho=>?_) λhd ho=>?_
   . exact we ho
   . obtain ⟨cc,he,ho⟩:=bnd ho;refine run 3 ?_;refine gcx cc [] [] (λt=>(.normal,λ_=>([(64,vB t)],[]))) ?_ λ_=>?_
     . have ho:=he;refine gcl ho λya hh ho=>?_;refine wbr ho (λha ho=>?_) λha ho=>?_
       . exact we ho
       . obtain ⟨yb,hg,ho⟩:=bnd ho;refine run 4 ?_;refine zgZ (i75.ok _ hg) (.v zgY .n) rfl (.g rfl rfl (gf0 ha)) rfl rfl rfl .f (.c (.o (.t rfl)) (.c (.o (.fv (zgJ (λx y hf=>i201.ok _ hf) rfl))) .n)) ?_;exact we ho
     . exact we ho⟩
instance i172 {t_0 state_1}:FI ktab 172 (zdd t_0 state_1) [.val zbG t_0,vI state_1] (λout=>[.val (ze2 zI) out.1,wB out.2]):=⟨λout ho=>by
 delta zdd at ho;refine fn λ_ _=>?_;refine run 3 ?_;refine zam rfl (.n rfl) rfl (e:=.val (ze2 zI) none) (λz fr h s=>⟨_,rfl,zb4⟩) ?_;obtain ⟨c4,hc4,ho⟩:=bnd ho;refine run 4 ?_;refine gcx c4 [1,2] [] (λt=>(.normal,λ_=>([(17,vB t)],[]))) ?_ λ_=>?_
 . exact we hc4
 . refine gct ho (λhq8 ho=>?_) λhq8 ho=>?_
   . refine run 2 ?_;refine zam rfl (.n rfl) rfl (e:=.val (ze2 zI) none) (λz fr h s=>⟨_,rfl,zb4⟩) ?_;exact we ho
   . refine run 10 ?_;cases ho;refine zn1 (zkd (n:=4) rfl) ?_;exact zea (zcZ (.inr rfl) (.v rfl (.v rfl .n)) (by decide))⟩
instance i174 {p_0 rail_1}:FI ktab 174 (zbL p_0 rail_1) [.val zbJ p_0,vI rail_1] (λout=>[wI out.1,wI out.2]):=⟨λout ho=>by
 delta zbL at ho;refine fn λ_ _=>?_;refine gcl ho λy1 hy1 ho=>?_;obtain ⟨c5,hc5,ho⟩:=bnd ho;refine run 8 ?_;refine gcx c5 [1,6] [] (λt=>(.normal,λ_=>([(21,vB t)],[]))) ?_ λ_=>?_
 . have ho:=hc5;refine wbr ho (λhb6 ho=>?_) λhb6 ho=>?_
   . exact we ho
   . obtain ⟨p7,hp7,ho⟩:=bnd ho;refine run 7 ?_;refine zeM (zct (n:=16) hp7 rfl) ?_;exact we ho
 . refine gct ho (λhq9 ho=>?_) λhq9 ho=>?_
   . exact we ho
   . obtain ⟨pa,ha,ho⟩:=bnd ho;refine run 4 ?_;refine zeM (zct (n:=22) ha rfl) ?_;exact we ho⟩
instance i162 {p_0 way_1 t_2 state_3 stops_4}:FI ktab 162 (zdE p_0 way_1 t_2 state_3 stops_4) [.val zbJ p_0,.val (zd z5) way_1,.val zbG t_2,vI state_3,.val (zd (zh .i64)) stops_4] (λout=>[.val (ze2 zaw) out.1,wB out.2]):=⟨λout ho=>by
 delta zdE at ho;refine fn λ_ _=>?_;refine run 4 ?_;refine zam rfl (.n rfl) rfl (e:=.val (ze2 zaw) none) (λz fr h s=>⟨_,rfl,zb4⟩) ?_;refine gcl ho λy1 hy1 ho=>?_;refine gcl ho λy2 hy2 ho=>?_;obtain ⟨ca,ha,ho⟩:=bnd ho;refine run 8 ?_;refine gcx ca [1,4,5,12] [] (λt=>(.normal,λ_=>([(66,vB t)],[]))) ?_ λ_=>?_
 . exact we ha
 . refine gct ho (λhc ho=>?_) λhc ho=>?_
   . refine run 2 ?_;refine zam rfl (.n rfl) rfl (e:=.val (ze2 zaw) none) (λz fr h s=>⟨_,rfl,zb4⟩) ?_;exact we ho
   . obtain ⟨ta,hd,ho⟩:=bnd ho;refine gl2 hd ho [1,4,5,12] [] [] (λs g=>([(16,vI s)],[])) (λb=>(.exit 0,λg=>([],[]))) (λb=>(.ret,λg=>([(10,.val (ze2 zaw) b.1),(11,vB b.2)],[]))) [] (λsa gd _ ho=>?_) (λbc ho gb=>?_) λbd ho gb=>?_
     . refine gct ho (λhe ho=>?_) λhe ho=>?_
       . obtain ⟨xd,ht,xe,hu,ho⟩:=zfI ho;refine gct ho (λhf ho=>?_) λhf ho=>?_
         . refine run 2 ?_;refine zam rfl (.n rfl) rfl (e:=.val (ze2 zaw) none) (λz fr h s=>⟨_,rfl,zb4⟩) ?_;exact we ho
         . exact we ho
       . exact lv [] [] ho
     . obtain ⟨pa,hg,ho⟩:=bnd ho;refine run 5 ?_;refine zeM (zct (n:=83) hg rfl) ?_;refine zlS (R:=zkf) zyK (.n rfl) rfl rfl rfl (.p (.t rfl) rfl (.p (.t rfl) rfl (.z (λ_=>zrc) (.z (λ_=>zrc) (.z (λ_=>zrc) (.p (.t rfl) rfl (.n rfl))))))) ?_;refine xbo λbb=>?_;refine zeM (zhl (q:=2) 0 rfl rfl rfl) ?_;refine zeM (zbS (zh .i64)) ?_;refine zeM (zhl (q:=3) 1 rfl rfl rfl) ?_;refine zeM (zbS (zh .i64)) ?_;refine zeM (zhl (q:=4) 2 rfl rfl rfl) ?_;refine zeM (zbS (zh .i64)) ?_;obtain ⟨tb,hh,ho⟩:=bnd ho;refine gl2 hh ho [5,17,88,89] [] [3,0,1,2] (λs g=>([(18,vI s.1),(90,vI s.2.1)],[(.ptr bb 0,.box [.val (zS zI) pa,.val (zd z5) way_1,.raw (gh g 2),.raw (gh g 1),.raw (gh g 0),.val (zd (zh .i64)) stops_4]),((gh g 0),.row (zh .i64) s.2.2.1),((gh g 1),.row (zh .i64) s.2.2.2.1),((gh g 2),.row (zh .i64) s.2.2.2.2)])) (λb=>(.exit 2,λg=>([],[(.ptr bb 0,.box [.val (zS zI) pa,.val (zd z5) way_1,.raw (gh g 0),.raw (gh g 1),.raw (gh g 2),.val (zd (zh .i64)) stops_4]),((gh g 0),.row (zh .i64) b.1),((gh g 1),.row (zh .i64) b.2.1),((gh g 2),.row (zh .i64) b.2.2)]))) (λb=>(.ret,λg=>([(10,.val (ze2 zaw) b.1),(11,vB b.2.1)],[]))) [.nilslice,.nilslice,.nilslice] (λsb ga _ ho=>?_) (λba ho gc=>?_) λbe ho gc=>?_
       . refine gct ho (λhi ho=>?_) λhi ho=>?_
         . obtain ⟨xa,hv,ho⟩:=bnd ho;refine gal λbf=>?_;refine gfz 1 z5 xa 0 [20] ?_;refine gcl ho λya hw ho=>?_;refine gct ho (λhj ho=>?_) λhj ho=>?_
           . refine run 2 ?_;refine zam rfl (.n rfl) rfl (e:=.val (ze2 zaw) none) (λz fr h s=>⟨_,rfl,zb4⟩) ?_;exact lv [(gh ga 2),(gh ga 1),(gh ga 0)] [] ho
           . obtain ⟨xb,hy,ho⟩:=bnd ho;refine gal λbg=>?_;refine gfz 1 zex xb 0 [23] ?_;refine gct ho (λhk ho=>?_) λhk ho=>?_
             . refine run 5 ?_;refine zao [6,13,21,1000017,2000023] (by kernel_rfl) ?_ (hdi:=rdists rfl (rowns rfl) (.c (.o (j:=0) rfl rfl) (.c (.q rfl) .n)) rfl);obtain ⟨xf,hl,ho⟩:=bnd ho;refine run 9 ?_;refine zn2 3 is' iy' hl (.n rfl) rfl rfl rfl rfl rfl (.t rfl) rfl (.t rfl) rfl (hra:=roffs rfl (.o 0 rfl rfl (by decide) (.q rfl .n))) ?_;intro va;obtain ⟨xg,hm,ho⟩:=bnd ho;refine run 7 ?_;refine zn2 3 is' iy' hm (.n rfl) rfl rfl rfl rfl rfl (.t rfl) rfl (.t rfl) rfl (hra:=roffs rfl (.o 1 rfl rfl (by decide) (.q rfl .n))) ?_;intro vb;obtain ⟨xh,hn,ho⟩:=bnd ho;refine run 6 ?_;refine zn2 3 is' iy' hn (.n rfl) rfl rfl rfl rfl rfl (.t rfl) rfl (.t rfl) rfl (hra:=roffs rfl (.o 2 rfl rfl (by decide) (.q rfl .n))) ?_;intro vc;refine run 2 ?_;refine zbt 3 2 (U27).sz rfl rfl (by exact Nat.le_of_ble_eq_true rfl) (.n rfl) rfl rfl (.t rfl) (.t rfl) (by rfl) ?_;refine run 2 ?_;refine zbt 3 1 (U27).sz rfl rfl (by exact Nat.le_of_ble_eq_true rfl) (.n rfl) rfl rfl (.t rfl) (.t rfl) (by rfl) ?_;refine run 2 ?_;refine zbt 3 0 (U27).sz rfl rfl (by exact Nat.le_of_ble_eq_true rfl) (.n rfl) rfl rfl (.t rfl) (.t rfl) (by rfl) ?_;exact lv [vc,vb,va] [3,0,1,2] ho
             . refine run 1 ?_;refine zao [6,13,21,1000017,2000023] (by kernel_rfl) ?_ (hdi:=rdists rfl (rowns rfl) (.c (.o (j:=0) rfl rfl) (.c (.q rfl) .n)) rfl);obtain ⟨xi,hp,ho⟩:=bnd ho;refine run 9 ?_;refine zn2 3 is' iy' hp (.n rfl) rfl rfl rfl rfl rfl (.t rfl) rfl (.t rfl) rfl (hra:=roffs rfl (.o 0 rfl rfl (by decide) (.q rfl .n))) ?_;intro vd;obtain ⟨xj,hr,ho⟩:=bnd ho;refine run 7 ?_;refine zn2 3 is' iy' hr (.n rfl) rfl rfl rfl rfl rfl (.t rfl) rfl (.t rfl) rfl (hra:=roffs rfl (.o 1 rfl rfl (by decide) (.q rfl .n))) ?_;intro ve;obtain ⟨xk,hs,ho⟩:=bnd ho;refine run 6 ?_;refine zn2 3 is' iy' hs (.n rfl) rfl rfl rfl rfl rfl (.t rfl) rfl (.t rfl) rfl (hra:=roffs rfl (.o 2 rfl rfl (by decide) (.q rfl .n))) ?_;intro vf;refine run 2 ?_;refine zbt 3 2 (U27).sz rfl rfl (by exact Nat.le_of_ble_eq_true rfl) (.n rfl) rfl rfl (.t rfl) (.t rfl) (by rfl) ?_;refine run 2 ?_;refine zbt 3 1 (U27).sz rfl rfl (by exact Nat.le_of_ble_eq_true rfl) (.n rfl) rfl rfl (.t rfl) (.t rfl) (by rfl) ?_;refine run 2 ?_;refine zbt 3 0 (U27).sz rfl rfl (by exact Nat.le_of_ble_eq_true rfl) (.n rfl) rfl rfl (.t rfl) (.t rfl) (by rfl) ?_;exact lv [vf,ve,vd] [3,0,1,2] ho
         . exact lv [(gh ga 2),(gh ga 1),(gh ga 0)] [0,3,2,1] ho
       . refine run 6 ?_;cases ho;refine zn1 (zdV 1 0 (q:=2) [] rfl rfl rfl rfl (by rfl) trivial) ?_;refine zn1 (zdV 1 0 (q:=3) [] rfl rfl rfl rfl (by rfl) trivial) ?_;refine zn1 (zdV 1 0 (q:=4) [] rfl rfl rfl rfl (by rfl) trivial) ?_;refine zn1 (zdo (R:=zaw) (a:=(pa,way_1,ba.1,ba.2.1,ba.2.2,stops_4,())) 0 [17,150,10] (zq (zB rfl) (zq (zB rfl) (zq (zB rfl) (zq (zB rfl) (zq (zB rfl) (zq (zB rfl) zb0 rfl) rfl) rfl) rfl) rfl) rfl) rfl rfl ⟨rfl,rfl,rfl,trivial⟩) ?_;refine zn1 (zkd (n:=10) rfl) ?_;exact zea (zcZ (.inr rfl) (.v rfl (.v rfl .n)) (by decide))
       . exact rv ho
     . exact rv ho⟩
instance i175 {m_0 x_1}:FI ktab 175 (zU m_0 x_1) [.val (zS zI) m_0,.val zo x_1] (λout=>[wI out]):=fw
instance i218 {x_0}:FI ktab 218 (zc4 x_0) [vI x_0] (λout=>[wB out]):=fw
instance i202 {x_0 target_1}:FI ktab 202 (zE x_0 target_1) [.val (zd (zh .i64)) x_0,vI target_1] (λout=>[wI out.1,wB out.2]):=⟨λout ho=>by
 delta zE at ho;refine fn λ_ _=>?_;obtain ⟨ta,ha,ho⟩:=bnd ho;refine glp ha [0,1,6] [] [] (λs g=>([(7,vI s.1),(8,vI s.2)],[])) (λb=>(.exit 0,λg=>([(7,vI b)],[]))) [] (λs6 g7 _ ho=>?_) λga=>?_
 . exact we ho
 . obtain ⟨ca,hc,ho⟩:=bnd ho;refine run 1 ?_;refine gcx ca [] [] (λt=>(.normal,λ_=>([(4,vI t.1),(5,vB t.2)],[]))) ?_ λ_=>?_
   . exact we hc
   . exact rv ho⟩
instance i188 {r_0 x_1}:FI ktab 188 (zaJ r_0 x_1) [.val (zS zaw) r_0,.val zo x_1] (λout=>[wI out]):=fw
instance i230 {m_0}:FI ktab 230 (za6 m_0) [.val (zS zI) m_0] (λout=>[wI out]):=fw
instance i219 {m_0 v_1 demand_2 slope_3}:FI ktab 219 (zaZ m_0 v_1 demand_2 slope_3) [.val (zS zI) m_0,vI v_1,vI demand_2,vI slope_3] (λout=>[wI out]):=fw
instance i220 {m_0 v_1 demand_2 slope_3}:FI ktab 220 (zaS m_0 v_1 demand_2 slope_3) [.val (zS zI) m_0,vI v_1,vI demand_2,vI slope_3] (λout=>[wI out]):=fw
instance i221 {m_0 v_1 demand_2 slope_3}:FI ktab 221 (zbn m_0 v_1 demand_2 slope_3) [.val (zS zI) m_0,vI v_1,vI demand_2,vI slope_3] (λout=>[wI out]):=fw
instance i222 {m_0 v_1 demand_2 slope_3}:FI ktab 222 (zbo m_0 v_1 demand_2 slope_3) [.val (zS zI) m_0,vI v_1,vI demand_2,vI slope_3] (λout=>[wI out]):=fw
instance i203 {m_0 v_1 demand_2 slope_3}:FI ktab 203 (zb8 m_0 v_1 demand_2 slope_3) [.val (zS zI) m_0,vI v_1,vI demand_2,vI slope_3] (λout=>[.val (zjn 4 (zh .i64)) out]):=⟨λout ho=>by
 delta zb8 at ho;refine fn λ_ _=>?_;refine gal λb1=>?_;refine run 3 ?_;refine zsX (R:=(zh .i64)) (x:=0) ia' (zc:=[.int .i64 0,.int .i64 0,.int .i64 0,.int .i64 0]) (by kernel_rfl) (zarr (λ_=>zint) rfl) (by decide) (.n rfl) rfl rfl ?_;intro b2;refine run 5 ?_;refine zfx (X:=(Int×Int×Int)) (Y:=Int) (λx=>[.val (zh .i64) x.1,.val (zh .i64) x.2.1,.val (zh .i64) x.2.2]) (λy=>[.val (zh .i64) y]) (f:=(λx=>zaZ m_0 x.1 x.2.1 x.2.2)) (λx y hf=>i219.ok _ hf) rfl (.n rfl) rfl rfl (.c (.t rfl) .n) .n ?_;refine run 1 ?_;refine zfx (X:=(Int×Int×Int)) (Y:=Int) (λx=>[.val (zh .i64) x.1,.val (zh .i64) x.2.1,.val (zh .i64) x.2.2]) (λy=>[.val (zh .i64) y]) (f:=(λx=>zaS m_0 x.1 x.2.1 x.2.2)) (λx y hf=>i220.ok _ hf) rfl (.n rfl) rfl rfl (.c (.t rfl) .n) .n ?_;refine run 1 ?_;refine zfx (X:=(Int×Int×Int)) (Y:=Int) (λx=>[.val (zh .i64) x.1,.val (zh .i64) x.2.1,.val (zh .i64) x.2.2]) (λy=>[.val (zh .i64) y]) (f:=(λx=>zbn m_0 x.1 x.2.1 x.2.2)) (λx y hf=>i221.ok _ hf) rfl (.n rfl) rfl rfl (.c (.t rfl) .n) .n ?_;refine run 1 ?_;refine zfx (X:=(Int×Int×Int)) (Y:=Int) (λx=>[.val (zh .i64) x.1,.val (zh .i64) x.2.1,.val (zh .i64) x.2.2]) (λy=>[.val (zh .i64) y]) (f:=(λx=>zbo m_0 x.1 x.2.1 x.2.2)) (λx y hf=>i222.ok _ hf) rfl (.n rfl) rfl rfl (.c (.t rfl) .n) .n ?_;refine zlU (R:=(rFn ktab (Int×Int×Int) Int (λx=>[.val (zh .i64) x.1,.val (zh .i64) x.2.1,.val (zh .i64) x.2.2]) (λy=>[.val (zh .i64) y]))) (zc:=[.nilfunc,.nilfunc,.nilfunc,.nilfunc]) ia' (by kernel_rfl) (by rfl) (.n rfl) rfl rfl (.c (.t rfl) (.c (.t rfl) (.c (.t rfl) (.c (.t rfl) .n)))) (by rfl) ?_
 obtain ⟨ta,ha,ho⟩:=bnd ho;refine glp ha [1,2,3,8,9,20] [1] [0,1] (λs g=>([(21,vI s.1)],[((.slice b2 0 4 1 (some 4)),.row (zh .i64) s.2)])) (λb=>(.exit 0,λg=>([],[((.slice b2 0 4 1 (some 4)),.row (zh .i64) b)]))) [] (λsa ga _ ho=>?_) λgb=>?_
 . refine gct ho (λhc ho=>?_) λhc ho=>?_
   . obtain ⟨xa,he,ya,hd,ho⟩:=zfI ho;refine gcv hd ?_;obtain ⟨xb,hg,ho⟩:=bnd ho;exact lv [] [0,1] ho
   . exact lv [] [0,1] ho
 . refine run 2 ?_;refine zu2 0 (λ_ h=>by cases h<;>rfl) ia' rfl (.n rfl) rfl rfl (.t rfl) ?_;refine zga 1 ia' rfl (by rfl) (by decide) (.n rfl) rfl rfl (.t rfl) (.t rfl) (by rfl) ?_;refine run 1 ?_;cases ho; exact zea (zcZ (.inr rfl) (.a 1 ia' rfl rfl .n) (by decide))⟩
instance i204 {m_0 x_1}:FI ktab 204 (zba m_0 x_1) [.val (zS zI) m_0,.val zo x_1] (λout=>[wI out]):=fw
instance i189 {m_0 x_1 demand_2 slope_3}:FI ktab 189 (zax m_0 x_1 demand_2 slope_3) [.val (zS zI) m_0,.val zo x_1,vI demand_2,vI slope_3] (λout=>[.val zaN out.1,wB out.2]):=⟨λout ho=>by
 delta zax at ho;refine fn λ_ _=>?_;refine gal λb1=>?_;refine gcl ho λy2 hy2 ho=>?_;refine gcl ho λy3 hy3 ho=>?_;refine gal λb4=>?_;refine zga 0 ia' rfl (by rfl) (by decide) (.n rfl) rfl rfl (.t rfl) (.t rfl) (by rfl) ?_;refine zeM (ziK (R:=(zh .i64)) 0 [10] (by decide) (by decide) rfl rfl ⟨rfl,trivial⟩) ?_;obtain ⟨x5,hx5,ho⟩:=bnd ho;refine run 3 ?_;refine zcX ia' hx5 (.n rfl) rfl rfl (.t rfl) (.i (by decide) (by decide)) ?_;obtain ⟨x6,hx6,ho⟩:=bnd ho;refine run 1 ?_;refine zcX ia' hx6 (.n rfl) rfl rfl (.t rfl) (.i (by decide) (by decide)) ?_;obtain ⟨x7,hx7,ho⟩:=bnd ho;refine run 2 ?_;refine zcX ia' hx7 (.n rfl) rfl rfl (.t rfl) (.i (by decide) (by decide)) ?_;obtain ⟨x8,hx8,ho⟩:=bnd ho;refine run 2 ?_;refine zcX ia' hx8 (.n rfl) rfl rfl (.t rfl) (.i (by decide) (by decide)) ?_;refine gal λb9=>?_;obtain ⟨ca,ha,ho⟩:=bnd ho;refine run 3 ?_;refine gcx ca [0,5,8,10,11,12,13,14] [0,1] (λt=>(.normal,λ_=>([(49,vB t)],[]))) ?_ λ_=>?_
 . have ho:=ha;refine wbr ho (λhc ho=>?_) λhc ho=>?_
   . exact lv [] [0,1] ho
   . refine wbr ho (λhd ho=>?_) λhd ho=>?_
     . exact lv [] [0,1] ho
     . exact lv [] [0,1] ho
 . refine gct ho (λhe ho=>?_) λhe ho=>?_
   . refine run 21 ?_;refine zf8 (off:=0) (es':=[vI 0,vI (w64 (x_1.2.1+0))]) 0 iu' rfl zhv (by exact Nat.le_of_ble_eq_true rfl) (.n rfl) rfl rfl (.t rfl) (.t rfl) (by rfl) ?_;obtain ⟨xa,hf,ho⟩:=bnd ho;refine run 3 ?_;refine zcX ia' hf (.n rfl) rfl rfl (.t rfl) (.i (by decide) (by decide)) ?_;obtain ⟨xb,hg,ho⟩:=bnd ho;refine run 4 ?_;refine zcX ia' hg (.n rfl) rfl rfl (.t rfl) (.i (by decide) (by decide)) ?_;obtain ⟨xd,hh,ho⟩:=bnd ho;refine run 4 ?_;refine zcX ia' hh (.n rfl) rfl rfl (.t rfl) (.i (by decide) (by decide)) ?_;obtain ⟨xe,hi,ho⟩:=bnd ho;refine run 4 ?_;refine zcX ia' hi (.n rfl) rfl rfl (.t rfl) (.i (by decide) (by decide)) ?_;obtain ⟨xn,hj,ho⟩:=bnd ho;refine run 19 ?_;refine zcX ia' hj (.n rfl) rfl rfl (.t rfl) (.i (by decide) (by decide)) ?_;obtain ⟨xf,ht,xo,hk,ho⟩:=zfI ho;refine run 23 ?_;refine zcX ia' hk (.n rfl) rfl rfl (.t rfl) (.i (by decide) (by decide)) ?_;obtain ⟨xg,hu,ho⟩:=bnd ho;refine run 20 ?_;refine zao [0] (by kernel_rfl) ?_;refine glb (((0,(w64 (x_1.2.1+0)),()),((w64 ((w64 (200*xa))*0)),(w64 ((w64 (200*xb))*0)),(w64 ((w64 (200*xd))*0)),(w64 ((w64 (200*xe))*0)),0,(w64 (x_1.1*x_1.1)),()),xf,xg,()):za2) 0 ?_;exact we ho
   . refine run 18 ?_;refine zf8 (off:=0) (es':=[vI (w64 (x_1.1+(w64 (100*(w64 ((w64 ((w64 (x5-x6))-x7))-x8)))))),vI (w64 (x_1.2.1+(w64 (x_1.1+(w64 (100*(w64 ((w64 ((w64 (x5-x6))-x7))-x8))))))))]) 0 iu' rfl zhv (by exact Nat.le_of_ble_eq_true rfl) (.n rfl) rfl rfl (.t rfl) (.t rfl) (by rfl) ?_;obtain ⟨xh,hl,ho⟩:=bnd ho;refine run 3 ?_;refine zcX ia' hl (.n rfl) rfl rfl (.t rfl) (.i (by decide) (by decide)) ?_;obtain ⟨xi,hm,ho⟩:=bnd ho;refine run 4 ?_;refine zcX ia' hm (.n rfl) rfl rfl (.t rfl) (.i (by decide) (by decide)) ?_;obtain ⟨xj,hn,ho⟩:=bnd ho;refine run 4 ?_;refine zcX ia' hn (.n rfl) rfl rfl (.t rfl) (.i (by decide) (by decide)) ?_;obtain ⟨xk,hp,ho⟩:=bnd ho;refine run 4 ?_;refine zcX ia' hp (.n rfl) rfl rfl (.t rfl) (.i (by decide) (by decide)) ?_;obtain ⟨xp,hr,ho⟩:=bnd ho;refine run 19 ?_;refine zcX ia' hr (.n rfl) rfl rfl (.t rfl) (.i (by decide) (by decide)) ?_;obtain ⟨xl,hv,xq,hs,ho⟩:=zfI ho;refine run 23 ?_;refine zcX ia' hs (.n rfl) rfl rfl (.t rfl) (.i (by decide) (by decide)) ?_;obtain ⟨xm,hw,ho⟩:=bnd ho;refine run 20 ?_;refine zao [0] (by kernel_rfl) ?_;refine glb ((((w64 (x_1.1+(w64 (100*(w64 ((w64 ((w64 (x5-x6))-x7))-x8)))))),(w64 (x_1.2.1+(w64 (x_1.1+(w64 (100*(w64 ((w64 ((w64 (x5-x6))-x7))-x8)))))))),()),((w64 ((w64 (200*xh))*(w64 (x_1.1+(w64 (100*(w64 ((w64 ((w64 (x5-x6))-x7))-x8)))))))),(w64 ((w64 (200*xi))*(w64 (x_1.1+(w64 (100*(w64 ((w64 ((w64 (x5-x6))-x7))-x8)))))))),(w64 ((w64 (200*xj))*(w64 (x_1.1+(w64 (100*(w64 ((w64 ((w64 (x5-x6))-x7))-x8)))))))),(w64 ((w64 (200*xk))*(w64 (x_1.1+(w64 (100*(w64 ((w64 ((w64 (x5-x6))-x7))-x8)))))))),(w64 ((w64 (10000*(w64 ((w64 ((w64 (x5-x6))-x7))-x8))))*(w64 ((w64 ((w64 (x5-x6))-x7))-x8)))),0,()),xl,xm,()):za2) 0 ?_
     exact we ho⟩
instance i223 {r_0 x_1}:FI ktab 223 (zb9 r_0 x_1) [.val (zS zaw) r_0,.val zo x_1] (λout=>[wI out]):=⟨λout ho=>by
 delta zb9 at ho;refine fn λ_ _=>?_;refine gcl ho λy2 hy2 ho=>?_;refine gcl ho λy3 hy3 ho=>?_;obtain ⟨ta,ha,ho⟩:=bnd ho;refine glp ha [0,5] [] [] (λs g=>([(7,vI s.1),(8,vI s.2)],[])) (λb=>(.exit 0,λg=>([(7,vI b)],[]))) [] (λs8 g9 _ ho=>?_) λga=>?_
 . exact we ho
 . exact we ho⟩
instance i205 {r_0 x_1 stop_2}:FI ktab 205 (zbp r_0 x_1 stop_2) [.val (zS zaw) r_0,.val zo x_1,vI stop_2] (λout=>[wB out]):=⟨λout ho=>by
 delta zbp at ho;refine fn λ_ _=>?_;obtain ⟨c9,hc9,ho⟩:=bnd ho;refine run 6 ?_;refine gcx c9 [] [] (λt=>(.normal,λ_=>([(6,vB t)],[]))) ?_ λ_=>?_
 . exact we hc9
 . exact rv ho⟩
theorem zfh {σ τ:Type} {step:σ->(zb)->Option (σ⊕τ)} {yv:ze} {K:σ⊕τ->List ze->Sx.Obj} (hcb:zsY ktab yv (λx=>[.val zo (x)]) step K) {s_:σ} {p_1 p_2 p_3 out} (ho:zaV step s_ p_1 p_2 p_3=some out) (b_1:Nat) (γ0:List ze):zgM ktab 224 [.raw yv,.raw (.ptr b_1 0),.val (zS (zS zI)) p_2,.val (zS (rFn ktab (zb) (Int) (λx=>[.val zo (x)]) (λy=>[.val (zh .i64) (y)]))) p_3] [(yv,K (.inl s_) γ0),(.ptr b_1 0,.box [vI (p_1.1),vI (p_1.2.1)])] [] (λγ=>[(yv,K (out.1) (untup (gh γ 0))),(.ptr b_1 0,.box [vI (out.2.1),vI (out.2.2.1)])]):=by
 refine zdN (F:=Tryz.f224) (by rfl) (by rfl) (by rfl) (λC=>?_);delta zaV at ho;obtain ⟨ta,ha,ho⟩:=bnd ho;refine gl2 ha ho [0,1,2,3] [] [0,1] (λs g=>([(7,vI s.1)],[(yv,K s.2.1 (untup (gh g 0))),(.ptr b_1 0,.box [vI s.2.2.1,vI s.2.2.2])])) (λb=>(.exit 0,λg=>([],[(yv,K b.1 (untup (gh g 0))),(.ptr b_1 0,.box [vI b.2.1,vI b.2.2])]))) (λb=>(.ret,λg=>([],[(yv,K b.1 (untup (gh g 0))),(.ptr b_1 0,.box [vI b.2.1,vI b.2.2])]))) [.tuple γ0] (λsa ga _ ho=>?_) (λba ho gb=>?_) λbb ho gb=>?_
 . refine gct ho (λhc ho=>?_) λhc ho=>?_
   . refine gct ho (λhd ho=>?_) λhd ho=>?_
     . exact lv [.tuple (untup (gh ga 0))] [0,1] ho
     . refine run 2 ?_;refine zao [1,3] (by kernel_rfl) ?_;refine glb (sa.2.2.1,sa.2.2.2,()) 1 ?_;refine glb (sa.2.2.1,sa.2.2.2,()) 1 ?_;obtain ⟨yb,he,ho⟩:=bnd ho;refine gcv he ?_;refine gcl ho λya hi ho=>?_;refine gal λbc=>?_;refine gfz 1 zaN ya.1 0 [5] ?_;refine gct ho (λhf ho=>?_) λhf ho=>?_
       . exact lv [.tuple (untup (gh ga 0))] [0,1] ho
       . refine glb ya.1.1 1 ?_;obtain ⟨sb,hs37,ho⟩:=bnd ho;refine zeM (zug (K:=K) 0 (zq1 hs37) rfl rfl) ?_;obtain ⟨yc,hg,ho⟩:=bnd ho;refine zqZ [0] [1] (λ_ h=>by cases h) hcb hg rfl rfl rfl (by decide) (.n rfl) rfl rfl rfl (.t rfl) (.c (.t rfl) .n) ?_;intro va;refine gct ho (λhh ho=>?_) λhh ho=>?_
         . exact lv [.tuple va] [0,1] ho
         . exact lv [.tuple va] [0,1] ho
   . exact lv [.tuple (untup (gh ga 0))] [0,1] ho
 . cases ho; exact id (zaF [0,1] [.tuple (untup (gh gb 0))] (.inl rfl) .n rfl (by decide))
 . cases ho; exact id (zaF [0,1] [.tuple (untup (gh gb 0))] (.inr rfl) .n rfl (by decide))
theorem zfM {m_0 x_1 slope_2 out} (ho:zbK m_0 x_1 slope_2=some out):zyE ktab 206 [.val (zS zI) m_0,.val zo x_1,.val (rFn ktab (zb) (Int) (λx=>[.val zo (x)]) (λy=>[.val (zh .i64) (y)])) slope_2] 224 [.val (zh .i64) (out.1.1),.val (zh .i64) (out.1.2.1)] [.val (zS (zS zI)) (out.2.1),.val (zS (rFn ktab (zb) (Int) (λx=>[.val zo (x)]) (λy=>[.val (zh .i64) (y)]))) (out.2.2)]:=by
 refine zvf (F:=Tryz.f206) (by rfl) (by rfl) (by rfl) (λC hC=>?_);delta zbK at ho;refine run 3 ?_;refine xbo λb1=>?_;refine run 1 ?_;refine zam rfl (.n rfl) rfl (e:=.raw .nilfunc) (λz fr h s=>⟨_,rfl,by simp only [TE.ok]; rfl⟩) ?_;refine run 3 ?_;refine zj8 (.n rfl) rfl rfl .n (.c (.t rfl) (.c (.t rfl) (.c (.t rfl) .n))) ?_;refine run 2 ?_;cases ho; exact zea (zve 0 (.inr rfl) rfl rfl)
end Go.Ai.TabYtghlaibcihhbcaaGreat