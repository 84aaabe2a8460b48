/- Written by program: walks through functions. -/
import Derived.Test.YtnngmijajnldlaaGreatX11
import Derived.Test.YtnngmijajnldlaaGreatX20
import Derived.Test.YtnngmijajnldlaaGreatX21
set_option linter.unusedSimpArgs false
set_option linter.unusedVariables false
set_option linter.unusedSectionVars false
open Option renaming some→Ob,none→Oe
namespace Go.Ai.TabYtnngmijajnldlaaGreat
open Go Go.Ai Go.Ai.Sx Go.Proofs
attribute [local irreducible] zm
set_option maxRecDepth 100000
set_option maxHeartbeats 4000000
instance i89 {a way_1}:FI ktab 89 (zca a way_1) [.val zdS a,.val (zb zam) way_1] (λout=>[wI out.1,wI out.2]):=⟨λout ho=>by
 delta zca at ho;refine fn λ_ _=>?_;refine gcl ho λy1 hy1 ho=>?_;obtain ⟨c5,hc5,ho⟩:=bnd ho;refine run 8 ?_;refine gcx c5 [1,6] [] (λt=>(.normal,λ_=>([(20,vB t)],[]))) ?_ λ_=>?_
 . have ho:=hc5;refine wbr ho (λhb6 ho=>?_) λhb6 ho=>?_
   . exact we ho
   . obtain ⟨p7,hp7,ho⟩:=bnd ho;refine run 6 ?_;refine zdh (zcr (n:=16) hp7 rfl) ?_;exact we ho
 . refine gct ho (λhq9 ho=>?_) λhq9 ho=>?_
   . exact we ho
   . obtain ⟨pa,ha,ho⟩:=bnd ho;refine run 5 ?_;refine zdh (zcr (n:=21) ha rfl) ?_;exact we ho⟩
instance i132 {b a high_2}:FI ktab 132 (zW b a high_2) [vI b,vI a,vI high_2] (λout=>[wB out]):=⟨λout ho=>by
 delta zW at ho;refine fn λ_ _=>?_;obtain ⟨c4,hc4,ho⟩:=bnd ho;refine run 5 ?_;refine gcx c4 [] [] (λt=>(.normal,λ_=>([(6,vB t)],[]))) ?_ λ_=>?_
 . exact we hc4
 . exact rv ho⟩
instance i158 {g_0}:FI ktab 158 (zfc g_0) [vI g_0] (λout=>[wB out]):=fw
instance i145 {t_0}:FI ktab 145 (zdV t_0) [.val zdT t_0] (λout=>[wI out]):=⟨λout ho=>by
 delta zdV at ho;refine fn λ_ _=>?_;obtain ⟨ca,hc,ho⟩:=bnd ho;refine run 7 ?_;refine gcx ca [1] [] (λt=>(.normal,λ_=>([(54,vB t)],[]))) ?_ λ_=>?_
 . exact we hc
 . refine gct ho (λhd ho=>?_) λhd ho=>?_
   . exact we ho
   . obtain ⟨cc,he,ho⟩:=bnd ho;refine run 3 ?_;refine gcx cc [] [] (λt=>(.normal,λ_=>([(64,vB t)],[]))) ?_ λ_=>?_
     . have ho:=he;refine gcl ho λya hh ho=>?_;refine wbr ho (λha ho=>?_) λha ho=>?_
       . exact we ho
       . obtain ⟨yb,hg,ho⟩:=bnd ho;refine run 4 ?_;refine zfF (i57.ok _ hg) (.v zeX .n) rfl (.g rfl rfl (gf0 ha)) rfl rfl rfl .f (.c (.o (.t rfl)) (.c (.o (.fv (zge (λx y hf=>i158.ok _ hf) rfl))) .n)) ?_;exact we ho
     . exact we ho⟩
instance i131 {a state_1}:FI ktab 131 (zdw a state_1) [.val zdT a,vI state_1] (λout=>[.val (ze9 zO) out.1,wB out.2]):=⟨λout ho=>by
 delta zdw at ho;refine fn λ_ _=>?_;refine run 3 ?_;refine zau rfl (.n rfl) rfl (e:=.val (ze9 zO) Oe) (λz fr h s=>⟨_,rfl,zcv⟩) ?_;obtain ⟨c4,hc4,ho⟩:=bnd ho;refine run 4 ?_;refine gcx c4 [1,2] [] (λt=>(.normal,λ_=>([(17,vB t)],[]))) ?_ λ_=>?_
 . exact we hc4
 . refine gct ho (λhq8 ho=>?_) λhq8 ho=>?_
   . refine run 2 ?_;refine zau rfl (.n rfl) rfl (e:=.val (ze9 zO) Oe) (λz fr h s=>⟨_,rfl,zcv⟩) ?_;exact we ho
   . refine run 10 ?_;cases ho;refine zm2 (zkC (n:=4) rfl) ?_;exact zdR (zdd (.inr rfl) (.v rfl (.v rfl .n)) Oa)⟩
instance i133 {a rail_1}:FI ktab 133 (zb3 a rail_1) [.val zdS a,vI rail_1] (λout=>[wI out.1,wI out.2]):=⟨λout ho=>by
 delta zb3 at ho;refine fn λ_ _=>?_;refine gcl ho λy1 hy1 ho=>?_;obtain ⟨c5,hc5,ho⟩:=bnd ho;refine run 8 ?_;refine gcx c5 [1,6] [] (λt=>(.normal,λ_=>([(21,vB t)],[]))) ?_ λ_=>?_
 . have ho:=hc5;refine wbr ho (λhb6 ho=>?_) λhb6 ho=>?_
   . exact we ho
   . obtain ⟨p7,hp7,ho⟩:=bnd ho;refine run 7 ?_;refine zdh (zcr (n:=16) hp7 rfl) ?_;exact we ho
 . refine gct ho (λhq9 ho=>?_) λhq9 ho=>?_
   . exact we ho
   . obtain ⟨pa,ha,ho⟩:=bnd ho;refine run 4 ?_;refine zdh (zcr (n:=22) ha rfl) ?_;exact we ho⟩
instance i123 {i d k f stops_4}:FI ktab 123 (zdW i d k f stops_4) [.val zdS i,.val (zb zam) d,.val zdT k,vI f,.val (zb (zh .i64)) stops_4] (λout=>[.val (ze9 zaH) out.1,wB out.2]):=⟨λout ho=>by
 delta zdW at ho;refine fn λ_ _=>?_;refine run 4 ?_;refine zau rfl (.n rfl) rfl (e:=.val (ze9 zaH) Oe) (λz fr h s=>⟨_,rfl,zcv⟩) ?_;refine gcl ho λy1 hy1 ho=>?_;refine gcl ho λy2 hy2 ho=>?_;obtain ⟨ca,ha,ho⟩:=bnd ho;refine run 8 ?_;refine gcx ca [1,4,5,12] [] (λt=>(.normal,λ_=>([(66,vB t)],[]))) ?_ λ_=>?_
 . exact we ha
 . refine gct ho (λhc ho=>?_) λhc ho=>?_
   . refine run 2 ?_;refine zau rfl (.n rfl) rfl (e:=.val (ze9 zaH) Oe) (λz fr h s=>⟨_,rfl,zcv⟩) ?_;exact we ho
   . obtain ⟨ta,hd,ho⟩:=bnd ho;refine gl2 hd ho [1,4,5,12] [] [] (λs g=>([(16,vI s)],[])) (λb=>(.exit 0,λg=>([],[]))) (λb=>(.ret,λg=>([(10,.val (ze9 zaH) b.1),(11,vB b.2)],[]))) [] (λsa gd _ ho=>?_) (λbc ho gb=>?_) λbd ho gb=>?_
     . refine gct ho (λhe ho=>?_) λhe ho=>?_
       . obtain ⟨xd,ht,xe,hu,ho⟩:=zff ho;refine gct ho (λhf ho=>?_) λhf ho=>?_
         . refine run 2 ?_;refine zau rfl (.n rfl) rfl (e:=.val (ze9 zaH) Oe) (λz fr h s=>⟨_,rfl,zcv⟩) ?_;exact we ho
         . exact we ho
       . exact lv [] [] ho
     . obtain ⟨pa,hg,ho⟩:=bnd ho;refine run 5 ?_;refine zdh (zcr (n:=83) hg rfl) ?_;refine zkr (R:=zkD) zBF (.n rfl) rfl rfl rfl (.p (.t rfl) rfl (.p (.t rfl) rfl (.z (λ_=>zsl) (.z (λ_=>zsl) (.z (λ_=>zsl) (.p (.t rfl) rfl (.n rfl))))))) ?_;refine xbo λbb=>?_;refine zdh (zht (q:=2) 0 rfl rfl rfl) ?_;refine zdh (zbN (zh .i64)) ?_;refine zdh (zht (q:=3) 1 rfl rfl rfl) ?_;refine zdh (zbN (zh .i64)) ?_;refine zdh (zht (q:=4) 2 rfl rfl rfl) ?_;refine zdh (zbN (zh .i64)) ?_;obtain ⟨tb,hh,ho⟩:=bnd ho;refine gl2 hh ho [5,17,88,89] [] [3,0,1,2] (λs g=>([(18,vI s.1),(90,vI s.2.1)],[(.ptr bb 0,.box [.val (zL zO) pa,.val (zb zam) d,.raw (gh g 2),.raw (gh g 1),.raw (gh g 0),.val (zb (zh .i64)) stops_4]),(gh g 0,.row (zh .i64) s.2.2.1),(gh g 1,.row (zh .i64) s.d3.1),(gh g 2,.row (zh .i64) s.d4)])) (λb=>(.exit 2,λg=>([],[(.ptr bb 0,.box [.val (zL zO) pa,.val (zb zam) d,.raw (gh g 0),.raw (gh g 1),.raw (gh g 2),.val (zb (zh .i64)) stops_4]),(gh g 0,.row (zh .i64) b.1),(gh g 1,.row (zh .i64) b.2.1),(gh g 2,.row (zh .i64) b.2.2)]))) (λb=>(.ret,λg=>([(10,.val (ze9 zaH) b.1),(11,vB b.2.1)],[]))) [.nsz,.nsz,.nsz] (λsb ga _ ho=>?_) (λba ho gc=>?_) λbe ho gc=>?_
       . refine gct ho (λhi ho=>?_) λhi ho=>?_
         . obtain ⟨xa,hv,ho⟩:=bnd ho;refine gal λbf=>?_;refine gfz 1 zam xa 0 [20] ?_;refine gcl ho λya hw ho=>?_;refine gct ho (λhj ho=>?_) λhj ho=>?_
           . refine run 2 ?_;refine zau rfl (.n rfl) rfl (e:=.val (ze9 zaH) Oe) (λz fr h s=>⟨_,rfl,zcv⟩) ?_;exact lv [gh ga 2,gh ga 1,gh ga 0] [] ho
           . obtain ⟨xb,hy,ho⟩:=bnd ho;refine gal λbg=>?_;refine gfz 1 zfk xb 0 [23] ?_;refine gct ho (λhk ho=>?_) λhk ho=>?_
             . refine run 5 ?_;refine zaK [6,13,21,1000017,2000023] Z ?_ (hdi:=rdists rfl (rowns rfl) (.c (.o (j:=0) rfl rfl) (.c (.q rfl) .n)) rfl);obtain ⟨xf,hl,ho⟩:=bnd ho;refine run 9 ?_;refine zoJ 3 is' iy' hl (.n rfl) rfl rfl rfl rfl rfl (.t rfl) rfl (.t rfl) rfl (hra:=roffs rfl (.o 0 rfl rfl Oa (.q rfl .n))) ?_;intro va;obtain ⟨xg,hm,ho⟩:=bnd ho;refine run 7 ?_;refine zoJ 3 is' iy' hm (.n rfl) rfl rfl rfl rfl rfl (.t rfl) rfl (.t rfl) rfl (hra:=roffs rfl (.o 1 rfl rfl Oa (.q rfl .n))) ?_;intro vb;obtain ⟨xh,hn,ho⟩:=bnd ho;refine run 6 ?_;refine zoJ 3 is' iy' hn (.n rfl) rfl rfl rfl rfl rfl (.t rfl) rfl (.t rfl) rfl (hra:=roffs rfl (.o 2 rfl rfl Oa (.q rfl .n))) ?_;intro vc;refine run 2 ?_;refine zbv 3 2 (U27).sz rfl rfl Og (.n rfl) rfl rfl (.t rfl) (.t rfl) Om ?_;refine run 2 ?_;refine zbv 3 1 (U27).sz rfl rfl Og (.n rfl) rfl rfl (.t rfl) (.t rfl) Om ?_;refine run 2 ?_;refine zbv 3 0 (U27).sz rfl rfl Og (.n rfl) rfl rfl (.t rfl) (.t rfl) Om ?_;exact lv [vc,vb,va] [3,0,1,2] ho
             . refine run 1 ?_;refine zaK [6,13,21,1000017,2000023] Z ?_ (hdi:=rdists rfl (rowns rfl) (.c (.o (j:=0) rfl rfl) (.c (.q rfl) .n)) rfl);obtain ⟨xi,hp,ho⟩:=bnd ho;refine run 9 ?_;refine zoJ 3 is' iy' hp (.n rfl) rfl rfl rfl rfl rfl (.t rfl) rfl (.t rfl) rfl (hra:=roffs rfl (.o 0 rfl rfl Oa (.q rfl .n))) ?_;intro vd;obtain ⟨xj,hr,ho⟩:=bnd ho;refine run 7 ?_;refine zoJ 3 is' iy' hr (.n rfl) rfl rfl rfl rfl rfl (.t rfl) rfl (.t rfl) rfl (hra:=roffs rfl (.o 1 rfl rfl Oa (.q rfl .n))) ?_;intro ve;obtain ⟨xk,hs,ho⟩:=bnd ho;refine run 6 ?_;refine zoJ 3 is' iy' hs (.n rfl) rfl rfl rfl rfl rfl (.t rfl) rfl (.t rfl) rfl (hra:=roffs rfl (.o 2 rfl rfl Oa (.q rfl .n))) ?_;intro vf;refine run 2 ?_;refine zbv 3 2 (U27).sz rfl rfl Og (.n rfl) rfl rfl (.t rfl) (.t rfl) Om ?_;refine run 2 ?_;refine zbv 3 1 (U27).sz rfl rfl Og (.n rfl) rfl rfl (.t rfl) (.t rfl) Om ?_;refine run 2 ?_;refine zbv 3 0 (U27).sz rfl rfl Og (.n rfl) rfl rfl (.t rfl) (.t rfl) Om ?_;exact lv [vf,ve,vd] [3,0,1,2] ho
         . exact lv [gh ga 2,gh ga 1,gh ga 0] [0,3,2,1] ho
       . refine run 6 ?_;cases ho;refine zm2 (zcS 1 0 (q:=2) [] rfl rfl rfl rfl Om trivial) ?_;refine zm2 (zcS 1 0 (q:=3) [] rfl rfl rfl rfl Om trivial) ?_;refine zm2 (zcS 1 0 (q:=4) [] rfl rfl rfl rfl Om trivial) ?_;refine zm2 (zb8 (R:=zaH) (a:=(pa,d,ba.1,ba.2.1,ba.2.2,stops_4,())) 0 [17,150,10] (zt (zz rfl) (zt (zz rfl) (zt (zz rfl) (zt (zz rfl) (zt (zz rfl) (zt (zz rfl) zb7 rfl) rfl) rfl) rfl) rfl) rfl) rfl rfl ⟨rfl,rfl,rfl,trivial⟩) ?_;refine zm2 (zkC (n:=10) rfl) ?_;exact zdR (zdd (.inr rfl) (.v rfl (.v rfl .n)) Oa)
       . exact rv ho
     . exact rv ho⟩
instance i134 {a x_1}:FI ktab 134 (z5 a x_1) [.val (zL zO) a,.val zM x_1] (λout=>[wI out]):=fw
instance i175 {x_0}:FI ktab 175 (zdq x_0) [vI x_0] (λout=>[wB out]):=fw
instance i159 {a target_1}:FI ktab 159 (zK a target_1) [.val (zb (zh .i64)) a,vI target_1] (λout=>[wI out.1,wB out.2]):=⟨λout ho=>by
 delta zK at ho;refine fn λ_ _=>?_;obtain ⟨ta,ha,ho⟩:=bnd ho;refine glp ha [0,1,6] [] [] (λs g=>([(7,vI s.1),(8,vI s.2)],[])) (λb=>(.exit 0,λg=>([(7,vI b)],[]))) [] (λs6 g7 _ ho=>?_) λga=>?_
 . exact we ho
 . obtain ⟨ca,hc,ho⟩:=bnd ho;refine run 1 ?_;refine gcx ca [] [] (λt=>(.normal,λ_=>([(4,vI t.1),(5,vB t.2)],[]))) ?_ λ_=>?_
   . exact we hc
   . exact rv ho⟩
instance i146 {a x_1}:FI ktab 146 (zaS a x_1) [.val (zL zaH) a,.val zM x_1] (λout=>[wI out]):=fw
instance i187 {m_0}:FI ktab 187 (zbq m_0) [.val (zL zO) m_0] (λout=>[wI out]):=fw
instance i176 {c b a slope_3}:FI ktab 176 (zbg c b a slope_3) [.val (zL zO) c,vI b,vI a,vI slope_3] (λout=>[wI out]):=fw
instance i177 {c b a slope_3}:FI ktab 177 (za8 c b a slope_3) [.val (zL zO) c,vI b,vI a,vI slope_3] (λout=>[wI out]):=fw
instance i178 {c b a slope_3}:FI ktab 178 (zbF c b a slope_3) [.val (zL zO) c,vI b,vI a,vI slope_3] (λout=>[wI out]):=fw
instance i179 {c b a slope_3}:FI ktab 179 (zbG c b a slope_3) [.val (zL zO) c,vI b,vI a,vI slope_3] (λout=>[wI out]):=fw
instance i160 {e i d slope_3}:FI ktab 160 (zcz e i d slope_3) [.val (zL zO) e,vI i,vI d,vI slope_3] (λout=>[.val (zjJ 4 (zh .i64)) out]):=⟨λout ho=>by
 delta zcz at ho;refine fn λ_ _=>?_;refine gal λb1=>?_;refine run 3 ?_;refine zuB (R:=zh .i64) (x:=0) ia' (zc:=[.int .i64 0,.int .i64 0,.int .i64 0,.int .i64 0]) Z (zarr (λ_=>zint) rfl) Oa (.n rfl) rfl rfl ?_;intro b2;refine run 5 ?_;refine zeB (X:=(Int×Int×Int)) (Y:=Int) (λx=>[.val (zh .i64) x.1,.val (zh .i64) x.2.1,.val (zh .i64) x.2.2]) (λy=>[.val (zh .i64) y]) (f:=(λx=>zbg e x.1 x.2.1 x.2.2)) (λx y hf=>i176.ok _ hf) rfl (.n rfl) rfl rfl (.c (.t rfl) .n) .n ?_;refine run 1 ?_;refine zeB (X:=(Int×Int×Int)) (Y:=Int) (λx=>[.val (zh .i64) x.1,.val (zh .i64) x.2.1,.val (zh .i64) x.2.2]) (λy=>[.val (zh .i64) y]) (f:=(λx=>za8 e x.1 x.2.1 x.2.2)) (λx y hf=>i177.ok _ hf) rfl (.n rfl) rfl rfl (.c (.t rfl) .n) .n ?_;refine run 1 ?_;refine zeB (X:=(Int×Int×Int)) (Y:=Int) (λx=>[.val (zh .i64) x.1,.val (zh .i64) x.2.1,.val (zh .i64) x.2.2]) (λy=>[.val (zh .i64) y]) (f:=(λx=>zbF e x.1 x.2.1 x.2.2)) (λx y hf=>i178.ok _ hf) rfl (.n rfl) rfl rfl (.c (.t rfl) .n) .n ?_;refine run 1 ?_;refine zeB (X:=(Int×Int×Int)) (Y:=Int) (λx=>[.val (zh .i64) x.1,.val (zh .i64) x.2.1,.val (zh .i64) x.2.2]) (λy=>[.val (zh .i64) y]) (f:=(λx=>zbG e x.1 x.2.1 x.2.2)) (λx y hf=>i179.ok _ hf) rfl (.n rfl) rfl rfl (.c (.t rfl) .n) .n ?_;refine zmD (R:=rFn ktab (Int×Int×Int) Int (λx=>[.val (zh .i64) x.1,.val (zh .i64) x.2.1,.val (zh .i64) x.2.2]) (λy=>[.val (zh .i64) y])) (zc:=[.nfz,.nfz,.nfz,.nfz]) ia' Z Om (.n rfl) rfl rfl (.c (.t rfl) (.c (.t rfl) (.c (.t rfl) (.c (.t rfl) .n)))) Om ?_
 obtain ⟨ta,ha,ho⟩:=bnd ho;refine glp ha [1,2,3,8,9,20] [1] [0,1] (λs g=>([(21,vI s.1)],[((.slice b2 0 4 1 (Ob 4)),.row (zh .i64) s.2)])) (λb=>(.exit 0,λg=>([],[((.slice b2 0 4 1 (Ob 4)),.row (zh .i64) b)]))) [] (λsa ga _ ho=>?_) λgb=>?_
 . refine gct ho (λhc ho=>?_) λhc ho=>?_
   . obtain ⟨xa,he,ya,hd,ho⟩:=zff ho;refine gcv hd ?_;obtain ⟨xb,hg,ho⟩:=bnd ho;exact lv [] [0,1] ho
   . exact lv [] [0,1] ho
 . refine run 2 ?_;refine zw2 0 (λ_ h=>by cases h<;>rfl) ia' rfl (.n rfl) rfl rfl (.t rfl) ?_;refine zgf 1 ia' rfl Om Oa (.n rfl) rfl rfl (.t rfl) (.t rfl) Om ?_;refine run 1 ?_;cases ho; exact zdR (zdd (.inr rfl) (.a 1 ia' rfl rfl .n) Oa)⟩
instance i161 {a x_1}:FI ktab 161 (zbu a x_1) [.val (zL zO) a,.val zM x_1] (λout=>[wI out]):=fw
instance i147 {c a b slope_3}:FI ktab 147 (zaI c a b slope_3) [.val (zL zO) c,.val zM a,vI b,vI slope_3] (λout=>[.val zaX out.1,wB out.2]):=⟨λout ho=>by
 delta zaI at ho;refine fn λ_ _=>?_;refine gal λb1=>?_;refine gcl ho λy2 hy2 ho=>?_;refine gcl ho λy3 hy3 ho=>?_;refine gal λb4=>?_;refine zgf 0 ia' rfl Om Oa (.n rfl) rfl rfl (.t rfl) (.t rfl) Om ?_;refine zdh (zi6 (R:=zh .i64) 0 [10] Oa Oa rfl rfl ⟨rfl,trivial⟩) ?_;obtain ⟨x5,hx5,ho⟩:=bnd ho;refine run 3 ?_;refine zcX ia' hx5 (.n rfl) rfl rfl (.t rfl) (.i Oa Oa) ?_;obtain ⟨x6,hx6,ho⟩:=bnd ho;refine run 1 ?_;refine zcX ia' hx6 (.n rfl) rfl rfl (.t rfl) (.i Oa Oa) ?_;obtain ⟨x7,hx7,ho⟩:=bnd ho;refine run 2 ?_;refine zcX ia' hx7 (.n rfl) rfl rfl (.t rfl) (.i Oa Oa) ?_;obtain ⟨x8,hx8,ho⟩:=bnd ho;refine run 2 ?_;refine zcX ia' hx8 (.n rfl) rfl rfl (.t rfl) (.i Oa Oa) ?_;refine gal λb9=>?_;obtain ⟨ca,ha,ho⟩:=bnd ho;refine run 3 ?_;refine gcx ca [0,5,8,10,11,12,13,14] [0,1] (λt=>(.normal,λ_=>([(49,vB t)],[]))) ?_ λ_=>?_
 . have ho:=ha;refine wbr ho (λhc ho=>?_) λhc ho=>?_
   . exact lv [] [0,1] ho
   . refine wbr ho (λhd ho=>?_) λhd ho=>?_
     . exact lv [] [0,1] ho
     . exact lv [] [0,1] ho
 . refine gct ho (λhe ho=>?_) λhe ho=>?_
   . refine run 21 ?_;refine zis (off:=0) (es':=[vI 0,vI (w64 (a.2.1+0))]) 0 iu' rfl zhI Og (.n rfl) rfl rfl (.t rfl) (.t rfl) Om ?_;obtain ⟨xa,hf,ho⟩:=bnd ho;refine run 3 ?_;refine zcX ia' hf (.n rfl) rfl rfl (.t rfl) (.i Oa Oa) ?_;obtain ⟨xb,hg,ho⟩:=bnd ho;refine run 4 ?_;refine zcX ia' hg (.n rfl) rfl rfl (.t rfl) (.i Oa Oa) ?_;obtain ⟨xd,hh,ho⟩:=bnd ho;refine run 4 ?_;refine zcX ia' hh (.n rfl) rfl rfl (.t rfl) (.i Oa Oa) ?_;obtain ⟨xe,hi,ho⟩:=bnd ho;refine run 4 ?_;refine zcX ia' hi (.n rfl) rfl rfl (.t rfl) (.i Oa Oa) ?_;obtain ⟨xn,hj,ho⟩:=bnd ho;refine run 19 ?_;refine zcX ia' hj (.n rfl) rfl rfl (.t rfl) (.i Oa Oa) ?_;obtain ⟨xf,ht,xo,hk,ho⟩:=zff ho;refine run 23 ?_;refine zcX ia' hk (.n rfl) rfl rfl (.t rfl) (.i Oa Oa) ?_;obtain ⟨xg,hu,ho⟩:=bnd ho;refine run 20 ?_;refine zaK [0] Z ?_;refine glb (((0,w64 (a.2.1+0),()),(w64 (w64 (200*xa)*0),w64 (w64 (200*xb)*0),w64 (w64 (200*xd)*0),w64 (w64 (200*xe)*0),0,w64 (a.1*a.1),()),xf,xg,()):zbl) 0 ?_;exact we ho
   . refine run 18 ?_;refine zis (off:=0) (es':=[vI (w64 (a.1+w64 (100*w64 (w64 (w64 (x5-x6)-x7)-x8)))),vI (w64 (a.2.1+w64 (a.1+w64 (100*w64 (w64 (w64 (x5-x6)-x7)-x8)))))]) 0 iu' rfl zhI Og (.n rfl) rfl rfl (.t rfl) (.t rfl) Om ?_;obtain ⟨xh,hl,ho⟩:=bnd ho;refine run 3 ?_;refine zcX ia' hl (.n rfl) rfl rfl (.t rfl) (.i Oa Oa) ?_;obtain ⟨xi,hm,ho⟩:=bnd ho;refine run 4 ?_;refine zcX ia' hm (.n rfl) rfl rfl (.t rfl) (.i Oa Oa) ?_;obtain ⟨xj,hn,ho⟩:=bnd ho;refine run 4 ?_;refine zcX ia' hn (.n rfl) rfl rfl (.t rfl) (.i Oa Oa) ?_;obtain ⟨xk,hp,ho⟩:=bnd ho;refine run 4 ?_;refine zcX ia' hp (.n rfl) rfl rfl (.t rfl) (.i Oa Oa) ?_;obtain ⟨xp,hr,ho⟩:=bnd ho;refine run 19 ?_;refine zcX ia' hr (.n rfl) rfl rfl (.t rfl) (.i Oa Oa) ?_;obtain ⟨xl,hv,xq,hs,ho⟩:=zff ho;refine run 23 ?_;refine zcX ia' hs (.n rfl) rfl rfl (.t rfl) (.i Oa Oa) ?_;obtain ⟨xm,hw,ho⟩:=bnd ho;refine run 20 ?_;refine zaK [0] Z ?_;refine glb (((w64 (a.1+w64 (100*w64 (w64 (w64 (x5-x6)-x7)-x8))),w64 (a.2.1+w64 (a.1+w64 (100*w64 (w64 (w64 (x5-x6)-x7)-x8)))),()),(w64 (w64 (200*xh)*w64 (a.1+w64 (100*w64 (w64 (w64 (x5-x6)-x7)-x8)))),w64 (w64 (200*xi)*w64 (a.1+w64 (100*w64 (w64 (w64 (x5-x6)-x7)-x8)))),w64 (w64 (200*xj)*w64 (a.1+w64 (100*w64 (w64 (w64 (x5-x6)-x7)-x8)))),w64 (w64 (200*xk)*w64 (a.1+w64 (100*w64 (w64 (w64 (x5-x6)-x7)-x8)))),w64 (w64 (10000*w64 (w64 (w64 (x5-x6)-x7)-x8))*w64 (w64 (w64 (x5-x6)-x7)-x8)),0,()),xl,xm,()):zbl) 0 ?_
     exact we ho⟩
instance i180 {a x_1}:FI ktab 180 (zcA a x_1) [.val (zL zaH) a,.val zM x_1] (λout=>[wI out]):=⟨λout ho=>by
 delta zcA at ho;refine fn λ_ _=>?_;refine gcl ho λy2 hy2 ho=>?_;refine gcl ho λy3 hy3 ho=>?_;obtain ⟨ta,ha,ho⟩:=bnd ho;refine glp ha [0,5] [] [] (λs g=>([(7,vI s.1),(8,vI s.2)],[])) (λb=>(.exit 0,λg=>([(7,vI b)],[]))) [] (λs8 g9 _ ho=>?_) λga=>?_
 . exact we ho
 . exact we ho⟩
instance i162 {b a stop_2}:FI ktab 162 (zbH b a stop_2) [.val (zL zaH) b,.val zM a,vI stop_2] (λout=>[wB out]):=⟨λout ho=>by
 delta zbH at ho;refine fn λ_ _=>?_;obtain ⟨c9,hc9,ho⟩:=bnd ho;refine run 6 ?_;refine gcx c9 [] [] (λt=>(.normal,λ_=>([(6,vB t)],[]))) ?_ λ_=>?_
 . exact we hc9
 . exact rv ho⟩
theorem zfs {σ τ:Type} {step:σ->ze->Option (σ⊕τ)} {yv:zd} {K:σ⊕τ->List zd->Sx.Obj} (hcb:zr9 ktab yv (λx=>[.val zM x]) step K) {s_:σ} {d e f out} (ho:zbe step s_ d e f=Ob out) (a:Nat) (γ0:List zd):zfL ktab 181 [.raw yv,.raw (.ptr a 0),.val (zL (zL zO)) e,.val (zL (rFn ktab ze Int (λx=>[.val zM x]) (λy=>[.val (zh .i64) y]))) f] [(yv,K (.inl s_) γ0),(.ptr a 0,.box [vI d.1,vI d.2.1])] [] (λγ=>[(yv,K out.1 (untup (gh γ 0))),(.ptr a 0,.box [vI out.2.1,vI out.2.2.1])]):=by
 refine zco (F:=Tryz.f181) Om Om Om (λC=>?_);delta zbe at ho;obtain ⟨ta,ha,ho⟩:=bnd ho;refine gl2 ha ho [0,1,2,3] [] [0,1] (λs g=>([(7,vI s.1)],[(yv,K s.2.1 (untup (gh g 0))),(.ptr a 0,.box [vI s.2.2.1,vI s.d3])])) (λb=>(.exit 0,λg=>([],[(yv,K b.1 (untup (gh g 0))),(.ptr a 0,.box [vI b.2.1,vI b.2.2])]))) (λb=>(.ret,λg=>([],[(yv,K b.1 (untup (gh g 0))),(.ptr a 0,.box [vI b.2.1,vI b.2.2])]))) [.tuple γ0] (λsa ga _ ho=>?_) (λba ho gb=>?_) λbb ho gb=>?_
 . refine gct ho (λhc ho=>?_) λhc ho=>?_
   . refine gct ho (λhd ho=>?_) λhd ho=>?_
     . exact lv [.tuple (untup (gh ga 0))] [0,1] ho
     . refine run 2 ?_;refine zaK [1,3] Z ?_;refine glb (sa.2.2.1,sa.d3,()) 1 ?_;refine glb (sa.2.2.1,sa.d3,()) 1 ?_;obtain ⟨yb,he,ho⟩:=bnd ho;refine gcv he ?_;refine gcl ho λya hi ho=>?_;refine gal λbc=>?_;refine gfz 1 zaX ya.1 0 [5] ?_;refine gct ho (λhf ho=>?_) λhf ho=>?_
       . exact lv [.tuple (untup (gh ga 0))] [0,1] ho
       . refine glb ya.1.1 1 ?_;obtain ⟨sb,hs37,ho⟩:=bnd ho;refine zdh (zsc (K:=K) 0 (zoR hs37) rfl rfl) ?_;obtain ⟨yc,hg,ho⟩:=bnd ho;refine zoQ [0] [1] (λ_ h=>by cases h) hcb hg rfl rfl rfl Oa (.n rfl) rfl rfl rfl (.t rfl) (.c (.t rfl) .n) ?_;intro va;refine gct ho (λhh ho=>?_) λhh ho=>?_
         . exact lv [.tuple va] [0,1] ho
         . exact lv [.tuple va] [0,1] ho
   . exact lv [.tuple (untup (gh ga 0))] [0,1] ho
 . cases ho; exact id (zP [0,1] [.tuple (untup (gh gb 0))] (.inl rfl) .n rfl Oa)
 . cases ho; exact id (zP [0,1] [.tuple (untup (gh gb 0))] (.inr rfl) .n rfl Oa)
theorem zfR {d b a out} (ho:zb1 d b a=Ob out):zBx ktab 163 [.val (zL zO) d,.val zM b,.val (rFn ktab ze Int (λx=>[.val zM x]) (λy=>[.val (zh .i64) y])) a] 181 [.val (zh .i64) out.1.1,.val (zh .i64) out.1.2.1] [.val (zL (zL zO)) out.2.1,.val (zL (rFn ktab ze Int (λx=>[.val zM x]) (λy=>[.val (zh .i64) y]))) out.2.2]:=by
 refine zxc (F:=Tryz.f163) Om Om Om (λC hC=>?_);delta zb1 at ho;refine run 3 ?_;refine xbo λb1=>?_;refine run 1 ?_;refine zau rfl (.n rfl) rfl (e:=.raw .nfz) (λz fr h s=>⟨_,rfl,by simp only [TE.ok]; rfl⟩) ?_;refine run 3 ?_;refine zi0 (.n rfl) rfl rfl .n (.c (.t rfl) (.c (.t rfl) (.c (.t rfl) .n))) ?_;refine run 2 ?_;cases ho; exact zdR (zxb 0 (.inr rfl) rfl rfl)
end Go.Ai.TabYtnngmijajnldlaaGreat