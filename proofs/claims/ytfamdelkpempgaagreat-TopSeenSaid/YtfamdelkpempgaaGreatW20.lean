/- Written by program: walks through functions. -/
import Derived.Test.YtfamdelkpempgaaGreatW11
import Derived.Test.YtfamdelkpempgaaGreatW19
set_option linter.unusedSimpArgs false
set_option linter.unusedVariables false
set_option linter.unusedSectionVars false
open Option renaming some→Ob,none→Oe
open Bool renaming false→Oc
namespace Go.Ai.TabYtfamdelkpempgaaGreat
open Go Go.Ai Go.Ai.Sx Go.Proofs
attribute [local irreducible] zr
set_option maxRecDepth 100000
set_option maxHeartbeats 4000000
instance i106 {b a k_2}:FI ktab 106 (za2 b a k_2) [.val (zaO zai) b,.val zT a,.val zT k_2] (λout=>[wB out]):=⟨λout ho=>by
 delta za2 at ho;refine fn λ_ _=>?_;refine gal λb1=>?_;refine gcl ho λy2 hy2 ho=>?_;obtain ⟨ta,ha,ho⟩:=bnd ho;refine run 2 ?_;refine zo7 (σ:=Bool) (τ:=Bool) (X:=zL) (ins:=(λx=>[.val zT x])) (zAK (λs g=>[(.ptr b1 0,.box [vB s])]) (λt g=>[(.ptr b1 0,.box [vB t])])) (λ_=>Oe) (s0:=Oc) (r:=ta) [] [0] [] rfl (.t rfl) rfl rfl Oa (λ_=>rfl) (λyv K hcb γ=>zgk hcb ha γ) ?_ ?_
 . clear ho ha;intro s8 g9 x3 r13 ho C;refine gal λba=>?_;refine gfz 1 zT x3 0 [7] ?_;refine zfp (λfr h s=>And.intro rfl (Exists.intro _ (Exists.intro _ (And.intro s (λC=>?_)))));refine gct ho (λhc ho=>?_) λhc ho=>?_
   . refine run 4 ?_;cases ho; exact zfr (λfr h s=>And.intro rfl (Exists.intro [] (s.pick [0] trivial rfl Oa)))
   . cases ho; exact zgt (λfr h s=>And.intro rfl (Exists.intro [] (s.pick [0] trivial rfl Oa)))
 . clear ha;rcases ta with bb | bc
   . have ho:=zxg ho;intro ga;refine gwk [0,1,2,4,5,6,8,9,10] [0] ?_;exact we ho
   . have ho:=zxh ho;intro gb;refine gwk [0,1,2,4,5,6,8,9,10] [0] ?_;exact rv ho⟩
instance i48 {a l_1}:FI ktab 48 (zbQ a l_1) [.val (zaO zai) a,.val (ze zT) l_1] (λout=>[wB out]):=⟨λout ho=>by
 delta zbQ at ho;refine fn λ_ _=>?_;obtain ⟨ta,ha,ho⟩:=bnd ho;refine gl2 ha ho [0,1,7,8] [] [] (λs g=>([(9,vI s)],[])) (λb=>(.exit 0,λg=>([],[]))) (λb=>(.ret,λg=>([(4,vB b)],[]))) [] (λsa gb _ ho=>?_) (λba ho ga=>?_) λbb ho ga=>?_
 . refine gct ho (λhc ho=>?_) λhc ho=>?_
   . obtain ⟨xa,hf,ho⟩:=bnd ho;refine gal λbc=>?_;refine gfz 2 zT xa 0 [6] ?_;refine gcl ho λya hg ho=>?_;refine wbr ho (λhd ho=>?_) λhd ho=>?_
     . refine gk ?_;exact we ho
     . refine wbr ho (λhe ho=>?_) λhe ho=>?_
       . refine run 5 ?_;exact we ho
       . refine gk ?_;exact we ho
   . exact lv [] [] ho
 . exact we ho
 . exact rv ho⟩
instance i49 {a l_1}:FI ktab 49 (zaN a l_1) [.val (zaO zai) a,.val (ze zT) l_1] (λout=>[wI out]):=⟨λout ho=>by
 delta zaN at ho;refine fn λ_ _=>?_;obtain ⟨ta,ha,ho⟩:=bnd ho;refine glp ha [0,8,9] [] [] (λs g=>([(5,vI s.1),(10,vI s.2)],[])) (λb=>(.exit 0,λg=>([(5,vI b)],[]))) [] (λs6 g7 _ ho=>?_) λga=>?_
 . refine gct ho (λhq8 ho=>?_) λhq8 ho=>?_
   . obtain ⟨x9,hx9,ho⟩:=bnd ho;refine gal λba=>?_;refine gfz 1 zT x9 0 [7] ?_;exact we ho
   . exact lv [] [] ho
 . exact we ho⟩
instance i153 {a way_1}:FI ktab 153 (zco a way_1) [.val zbI a,.val (ze zT) way_1] (λout=>[wI out.1,wI out.2]):=⟨λout ho=>by
 delta zco at ho;refine fn λ_ _=>?_;refine gcl ho λy1 hy1 ho=>?_;obtain ⟨c5,hc5,ho⟩:=bnd ho;refine run 8 ?_;refine gcx c5 [1,6] [] (λt=>(.normal,λ_=>([(20,vB t)],[]))) ?_ λ_=>?_
 . have ho:=hc5;refine wbr ho (λhb6 ho=>?_) λhb6 ho=>?_
   . exact we ho
   . obtain ⟨p7,hp7,ho⟩:=bnd ho;refine run 6 ?_;refine zem (zb7 (n:=16) hp7 rfl) ?_;exact we ho
 . refine gct ho (λhq9 ho=>?_) λhq9 ho=>?_
   . exact we ho
   . obtain ⟨pa,ha,ho⟩:=bnd ho;refine run 5 ?_;refine zem (zb7 (n:=21) ha rfl) ?_;exact we ho⟩
instance i161 {b a high_2}:FI ktab 161 (zW b a high_2) [vI b,vI a,vI high_2] (λout=>[wB out]):=⟨λout ho=>by
 delta zW at ho;refine fn λ_ _=>?_;obtain ⟨c4,hc4,ho⟩:=bnd ho;refine run 5 ?_;refine gcx c4 [] [] (λt=>(.normal,λ_=>([(6,vB t)],[]))) ?_ λ_=>?_
 . exact we hc4
 . exact rv ho⟩
instance i165 {a f_1}:FI ktab 165 (zbG a f_1) [.val (ze (zi .i64)) a,.val (rFn ktab Int Bool (λx=>[.val (zi .i64) x]) (λy=>[.val zaS y])) f_1] (λout=>[wI out]):=⟨λout ho=>by
 delta zbG at ho;refine fn λ_ _=>?_;obtain ⟨ta,ha,ho⟩:=bnd ho;refine gl2 ha ho [0,1,7] [] [] (λs g=>([(8,vI s)],[])) (λb=>(.exit 0,λg=>([],[]))) (λb=>(.ret,λg=>([(4,vI b)],[]))) [] (λs5 g6 _ ho=>?_) (λba ho ga=>?_) λbb ho ga=>?_
 . refine gct ho (λhq7 ho=>?_) λhq7 ho=>?_
   . obtain ⟨x8,hx8,y9,hy9,ho⟩:=zge ho;refine gcv hy9 ?_;exact we ho
   . exact lv [] [] ho
 . exact we ho
 . exact rv ho⟩
instance i123 {a f_1}:FI ktab 123 (zbf a f_1) [.val (ze (zi .i64)) a,.val (rFn ktab Int Bool (λx=>[.val (zi .i64) x]) (λy=>[.val zaS y])) f_1] (λout=>[wB out]):=fw
instance i213 {g_0}:FI ktab 213 (zfs g_0) [vI g_0] (λout=>[wB out]):=fw
instance i187 {t_0}:FI ktab 187 (zdY t_0) [.val zb1 t_0] (λout=>[wI out]):=⟨λout ho=>by
 delta zdY at ho;refine fn λ_ _=>?_;obtain ⟨ca,hc,ho⟩:=bnd ho;refine run 7 ?_;refine gcx ca [1] [] (λt=>(.normal,λ_=>([(54,vB t)],[]))) ?_ λ_=>?_
 . exact we hc
 . refine gct ho (λhd ho=>?_) λhd ho=>?_
   . exact we ho
   . obtain ⟨cc,he,ho⟩:=bnd ho;refine run 3 ?_;refine gcx cc [] [] (λt=>(.normal,λ_=>([(64,vB t)],[]))) ?_ λ_=>?_
     . have ho:=he;refine gcl ho λya hh ho=>?_;refine wbr ho (λha ho=>?_) λha ho=>?_
       . exact we ho
       . obtain ⟨yb,hg,ho⟩:=bnd ho;refine run 4 ?_;refine zhj (i123.ok _ hg) (.v zgs .n) rfl (.g rfl rfl (gf0 ha)) rfl rfl rfl .f (.c (.o (.t rfl)) (.c (.o (.fv (zhN (λx y hf=>i213.ok _ hf) rfl))) .n)) ?_;exact we ho
     . exact we ho⟩
instance i160 {a state_1}:FI ktab 160 (zdx a state_1) [.val zb1 a,vI state_1] (λout=>[.val (zeU zR) out.1,wB out.2]):=⟨λout ho=>by
 delta zdx at ho;refine fn λ_ _=>?_;refine run 3 ?_;refine zal rfl (.n rfl) rfl (e:=.val (zeU zR) Oe) (λz fr h s=>⟨_,rfl,zce⟩) ?_;obtain ⟨c4,hc4,ho⟩:=bnd ho;refine run 4 ?_;refine gcx c4 [1,2] [] (λt=>(.normal,λ_=>([(17,vB t)],[]))) ?_ λ_=>?_
 . exact we hc4
 . refine gct ho (λhq8 ho=>?_) λhq8 ho=>?_
   . refine run 2 ?_;refine zal rfl (.n rfl) rfl (e:=.val (zeU zR) Oe) (λz fr h s=>⟨_,rfl,zce⟩) ?_;exact we ho
   . refine run 10 ?_;cases ho;refine zlK (zkE (n:=4) rfl) ?_;exact zfr (zds (.inr rfl) (.v rfl (.v rfl .n)) Oa)⟩
instance i121 {i d k f stops_4}:FI ktab 121 (zdZ i d k f stops_4) [.val zbI i,.val (ze zT) d,.val zb1 k,vI f,.val (ze (zi .i64)) stops_4] (λout=>[.val (zeU zaH) out.1,wB out.2]):=⟨λout ho=>by
 delta zdZ at ho;refine fn λ_ _=>?_;refine run 4 ?_;refine zal rfl (.n rfl) rfl (e:=.val (zeU zaH) Oe) (λz fr h s=>⟨_,rfl,zce⟩) ?_;refine gcl ho λy1 hy1 ho=>?_;refine gcl ho λy2 hy2 ho=>?_;obtain ⟨ca,ha,ho⟩:=bnd ho;refine run 8 ?_;refine gcx ca [1,4,5,12] [] (λt=>(.normal,λ_=>([(66,vB t)],[]))) ?_ λ_=>?_
 . exact we ha
 . refine gct ho (λhc ho=>?_) λhc ho=>?_
   . refine run 2 ?_;refine zal rfl (.n rfl) rfl (e:=.val (zeU zaH) Oe) (λz fr h s=>⟨_,rfl,zce⟩) ?_;exact we ho
   . obtain ⟨ta,hd,ho⟩:=bnd ho;refine gl2 hd ho [1,4,5,12] [] [] (λs g=>([(16,vI s)],[])) (λb=>(.exit 0,λg=>([],[]))) (λb=>(.ret,λg=>([(10,.val (zeU zaH) b.1),(11,vB b.2)],[]))) [] (λsa gd _ ho=>?_) (λbc ho gb=>?_) λbd ho gb=>?_
     . refine gct ho (λhe ho=>?_) λhe ho=>?_
       . obtain ⟨xd,ht,xe,hu,ho⟩:=zge ho;refine gct ho (λhf ho=>?_) λhf ho=>?_
         . refine run 2 ?_;refine zal rfl (.n rfl) rfl (e:=.val (zeU zaH) Oe) (λz fr h s=>⟨_,rfl,zce⟩) ?_;exact we ho
         . exact we ho
       . exact lv [] [] ho
     . obtain ⟨pa,hg,ho⟩:=bnd ho;refine run 5 ?_;refine zem (zb7 (n:=83) hg rfl) ?_;refine zku (R:=zkG) zBt (.n rfl) rfl rfl rfl (.p (.t rfl) rfl (.p (.t rfl) rfl (.z (λ_=>zrg) (.z (λ_=>zrg) (.z (λ_=>zrg) (.p (.t rfl) rfl (.n rfl))))))) ?_;refine xbo λbb=>?_;refine zem (zfJ (q:=2) 0 rfl rfl rfl) ?_;refine zem (zdT (zi .i64)) ?_;refine zem (zfJ (q:=3) 1 rfl rfl rfl) ?_;refine zem (zdT (zi .i64)) ?_;refine zem (zfJ (q:=4) 2 rfl rfl rfl) ?_;refine zem (zdT (zi .i64)) ?_;obtain ⟨tb,hh,ho⟩:=bnd ho;refine gl2 hh ho [5,17,88,89] [] [3,0,1,2] (λs g=>([(18,vI s.1),(90,vI s.2.1)],[(.ptr bb 0,.box [.val (zaO zR) pa,.val (ze zT) d,.raw (gh g 2),.raw (gh g 1),.raw (gh g 0),.val (ze (zi .i64)) stops_4]),(gh g 0,.row (zi .i64) s.2.2.1),(gh g 1,.row (zi .i64) s.d3.1),(gh g 2,.row (zi .i64) s.d4)])) (λb=>(.exit 2,λg=>([],[(.ptr bb 0,.box [.val (zaO zR) pa,.val (ze zT) d,.raw (gh g 0),.raw (gh g 1),.raw (gh g 2),.val (ze (zi .i64)) stops_4]),(gh g 0,.row (zi .i64) b.1),(gh g 1,.row (zi .i64) b.2.1),(gh g 2,.row (zi .i64) b.2.2)]))) (λb=>(.ret,λg=>([(10,.val (zeU zaH) b.1),(11,vB b.2.1)],[]))) [.nsz,.nsz,.nsz] (λsb ga _ ho=>?_) (λba ho gc=>?_) λbe ho gc=>?_
       . refine gct ho (λhi ho=>?_) λhi ho=>?_
         . obtain ⟨xa,hv,ho⟩:=bnd ho;refine gal λbf=>?_;refine gfz 1 zT xa 0 [20] ?_;refine gcl ho λya hw ho=>?_;refine gct ho (λhj ho=>?_) λhj ho=>?_
           . refine run 2 ?_;refine zal rfl (.n rfl) rfl (e:=.val (zeU zaH) Oe) (λz fr h s=>⟨_,rfl,zce⟩) ?_;exact lv [gh ga 2,gh ga 1,gh ga 0] [] ho
           . obtain ⟨xb,hy,ho⟩:=bnd ho;refine gal λbg=>?_;refine gfz 1 zdO xb 0 [23] ?_;refine gct ho (λhk ho=>?_) λhk ho=>?_
             . refine run 5 ?_;refine zax [6,13,21,1000017,2000023] Z ?_ (hdi:=rdists rfl (rowns rfl) (.c (.o (j:=0) rfl rfl) (.c (.q rfl) .n)) rfl);obtain ⟨xf,hl,ho⟩:=bnd ho;refine run 9 ?_;refine zo3 3 is' iy' hl (.n rfl) rfl rfl rfl rfl rfl (.t rfl) rfl (.t rfl) rfl (hra:=roffs rfl (.o 0 rfl rfl Oa (.q rfl .n))) ?_;intro va;obtain ⟨xg,hm,ho⟩:=bnd ho;refine run 7 ?_;refine zo3 3 is' iy' hm (.n rfl) rfl rfl rfl rfl rfl (.t rfl) rfl (.t rfl) rfl (hra:=roffs rfl (.o 1 rfl rfl Oa (.q rfl .n))) ?_;intro vb;obtain ⟨xh,hn,ho⟩:=bnd ho;refine run 6 ?_;refine zo3 3 is' iy' hn (.n rfl) rfl rfl rfl rfl rfl (.t rfl) rfl (.t rfl) rfl (hra:=roffs rfl (.o 2 rfl rfl Oa (.q rfl .n))) ?_;intro vc;refine run 2 ?_;refine zdU 3 2 (U27).sz rfl rfl Og (.n rfl) rfl rfl (.t rfl) (.t rfl) Om ?_;refine run 2 ?_;refine zdU 3 1 (U27).sz rfl rfl Og (.n rfl) rfl rfl (.t rfl) (.t rfl) Om ?_;refine run 2 ?_;refine zdU 3 0 (U27).sz rfl rfl Og (.n rfl) rfl rfl (.t rfl) (.t rfl) Om ?_;exact lv [vc,vb,va] [3,0,1,2] ho
             . refine run 1 ?_;refine zax [6,13,21,1000017,2000023] Z ?_ (hdi:=rdists rfl (rowns rfl) (.c (.o (j:=0) rfl rfl) (.c (.q rfl) .n)) rfl);obtain ⟨xi,hp,ho⟩:=bnd ho;refine run 9 ?_;refine zo3 3 is' iy' hp (.n rfl) rfl rfl rfl rfl rfl (.t rfl) rfl (.t rfl) rfl (hra:=roffs rfl (.o 0 rfl rfl Oa (.q rfl .n))) ?_;intro vd;obtain ⟨xj,hr,ho⟩:=bnd ho;refine run 7 ?_;refine zo3 3 is' iy' hr (.n rfl) rfl rfl rfl rfl rfl (.t rfl) rfl (.t rfl) rfl (hra:=roffs rfl (.o 1 rfl rfl Oa (.q rfl .n))) ?_;intro ve;obtain ⟨xk,hs,ho⟩:=bnd ho;refine run 6 ?_;refine zo3 3 is' iy' hs (.n rfl) rfl rfl rfl rfl rfl (.t rfl) rfl (.t rfl) rfl (hra:=roffs rfl (.o 2 rfl rfl Oa (.q rfl .n))) ?_;intro vf;refine run 2 ?_;refine zdU 3 2 (U27).sz rfl rfl Og (.n rfl) rfl rfl (.t rfl) (.t rfl) Om ?_;refine run 2 ?_;refine zdU 3 1 (U27).sz rfl rfl Og (.n rfl) rfl rfl (.t rfl) (.t rfl) Om ?_;refine run 2 ?_;refine zdU 3 0 (U27).sz rfl rfl Og (.n rfl) rfl rfl (.t rfl) (.t rfl) Om ?_;exact lv [vf,ve,vd] [3,0,1,2] ho
         . exact lv [gh ga 2,gh ga 1,gh ga 0] [0,3,2,1] ho
       . refine run 6 ?_;cases ho;refine zlK (zeS 1 0 (q:=2) [] rfl rfl rfl rfl Om trivial) ?_;refine zlK (zeS 1 0 (q:=3) [] rfl rfl rfl rfl Om trivial) ?_;refine zlK (zeS 1 0 (q:=4) [] rfl rfl rfl rfl Om trivial) ?_;refine zlK (zdH (R:=zaH) (a:=(pa,d,ba.1,ba.2.1,ba.2.2,stops_4,())) 0 [17,150,10] (zj (zm rfl) (zj (zm rfl) (zj (zm rfl) (zj (zm rfl) (zj (zm rfl) (zj (zm rfl) za1 rfl) rfl) rfl) rfl) rfl) rfl) rfl rfl ⟨rfl,rfl,rfl,trivial⟩) ?_;refine zlK (zkE (n:=10) rfl) ?_;exact zfr (zds (.inr rfl) (.v rfl (.v rfl .n)) Oa)
       . exact rv ho
     . exact rv ho⟩
instance i162 {a x_1}:FI ktab 162 (z6 a x_1) [.val (zaO zR) a,.val zx x_1] (λout=>[wI out]):=fw
instance i233 {x_0}:FI ktab 233 (zdl x_0) [vI x_0] (λout=>[wB out]):=fw
instance i214 {a target_1}:FI ktab 214 (zO a target_1) [.val (ze (zi .i64)) a,vI target_1] (λout=>[wI out.1,wB out.2]):=⟨λout ho=>by
 delta zO at ho;refine fn λ_ _=>?_;obtain ⟨ta,ha,ho⟩:=bnd ho;refine glp ha [0,1,6] [] [] (λs g=>([(7,vI s.1),(8,vI s.2)],[])) (λb=>(.exit 0,λg=>([(7,vI b)],[]))) [] (λs6 g7 _ ho=>?_) λga=>?_
 . exact we ho
 . obtain ⟨ca,hc,ho⟩:=bnd ho;refine run 1 ?_;refine gcx ca [] [] (λt=>(.normal,λ_=>([(4,vI t.1),(5,vB t.2)],[]))) ?_ λ_=>?_
   . exact we hc
   . exact rv ho⟩
instance i188 {a x_1}:FI ktab 188 (zaT a x_1) [.val (zaO zaH) a,.val zx x_1] (λout=>[wI out]):=fw
instance i246 {m_0}:FI ktab 246 (zbt m_0) [.val (zaO zR) m_0] (λout=>[wI out]):=fw
instance i234 {c b a slope_3}:FI ktab 234 (zbg c b a slope_3) [.val (zaO zR) c,vI b,vI a,vI slope_3] (λout=>[wI out]):=fw
instance i235 {c b a slope_3}:FI ktab 235 (za8 c b a slope_3) [.val (zaO zR) c,vI b,vI a,vI slope_3] (λout=>[wI out]):=fw
instance i236 {c b a slope_3}:FI ktab 236 (zbR c b a slope_3) [.val (zaO zR) c,vI b,vI a,vI slope_3] (λout=>[wI out]):=fw
instance i237 {c b a slope_3}:FI ktab 237 (zbS c b a slope_3) [.val (zaO zR) c,vI b,vI a,vI slope_3] (λout=>[wI out]):=fw
instance i215 {e i d slope_3}:FI ktab 215 (zcG e i d slope_3) [.val (zaO zR) e,vI i,vI d,vI slope_3] (λout=>[.val (zhG 4 (zi .i64)) out]):=⟨λout ho=>by
 delta zcG at ho;refine fn λ_ _=>?_;refine gal λb1=>?_;refine run 3 ?_;refine zp1 (R:=zi .i64) (x:=0) ia' (zc:=[.int .i64 0,.int .i64 0,.int .i64 0,.int .i64 0]) Z (zarr (λ_=>zint) rfl) Oa (.n rfl) rfl rfl ?_;intro b2;refine run 5 ?_;refine zhM (X:=(Int×Int×Int)) (Y:=Int) (λx=>[.val (zi .i64) x.1,.val (zi .i64) x.2.1,.val (zi .i64) x.2.2]) (λy=>[.val (zi .i64) y]) (f:=(λx=>zbg e x.1 x.2.1 x.2.2)) (λx y hf=>i234.ok _ hf) rfl (.n rfl) rfl rfl (.c (.t rfl) .n) .n ?_;refine run 1 ?_;refine zhM (X:=(Int×Int×Int)) (Y:=Int) (λx=>[.val (zi .i64) x.1,.val (zi .i64) x.2.1,.val (zi .i64) x.2.2]) (λy=>[.val (zi .i64) y]) (f:=(λx=>za8 e x.1 x.2.1 x.2.2)) (λx y hf=>i235.ok _ hf) rfl (.n rfl) rfl rfl (.c (.t rfl) .n) .n ?_;refine run 1 ?_;refine zhM (X:=(Int×Int×Int)) (Y:=Int) (λx=>[.val (zi .i64) x.1,.val (zi .i64) x.2.1,.val (zi .i64) x.2.2]) (λy=>[.val (zi .i64) y]) (f:=(λx=>zbR e x.1 x.2.1 x.2.2)) (λx y hf=>i236.ok _ hf) rfl (.n rfl) rfl rfl (.c (.t rfl) .n) .n ?_;refine run 1 ?_;refine zhM (X:=(Int×Int×Int)) (Y:=Int) (λx=>[.val (zi .i64) x.1,.val (zi .i64) x.2.1,.val (zi .i64) x.2.2]) (λy=>[.val (zi .i64) y]) (f:=(λx=>zbS e x.1 x.2.1 x.2.2)) (λx y hf=>i237.ok _ hf) rfl (.n rfl) rfl rfl (.c (.t rfl) .n) .n ?_;refine zmy (R:=rFn ktab (Int×Int×Int) Int (λx=>[.val (zi .i64) x.1,.val (zi .i64) x.2.1,.val (zi .i64) x.2.2]) (λy=>[.val (zi .i64) y])) (zc:=[.nfz,.nfz,.nfz,.nfz]) ia' Z Om (.n rfl) rfl rfl (.c (.t rfl) (.c (.t rfl) (.c (.t rfl) (.c (.t rfl) .n)))) Om ?_
 obtain ⟨ta,ha,ho⟩:=bnd ho;refine glp ha [1,2,3,8,9,20] [1] [0,1] (λs g=>([(21,vI s.1)],[((.slice b2 0 4 1 (Ob 4)),.row (zi .i64) s.2)])) (λb=>(.exit 0,λg=>([],[((.slice b2 0 4 1 (Ob 4)),.row (zi .i64) b)]))) [] (λsa ga _ ho=>?_) λgb=>?_
 . refine gct ho (λhc ho=>?_) λhc ho=>?_
   . obtain ⟨xa,he,ya,hd,ho⟩:=zge ho;refine gcv hd ?_;obtain ⟨xb,hg,ho⟩:=bnd ho;exact lv [] [0,1] ho
   . exact lv [] [0,1] ho
 . refine run 2 ?_;refine zso 0 (λ_ h=>by cases h<;>rfl) ia' rfl (.n rfl) rfl rfl (.t rfl) ?_;refine zgu 1 ia' rfl Om Oa (.n rfl) rfl rfl (.t rfl) (.t rfl) Om ?_;refine run 1 ?_;cases ho; exact zfr (zds (.inr rfl) (.a 1 ia' rfl rfl .n) Oa)⟩
instance i216 {a x_1}:FI ktab 216 (zbz a x_1) [.val (zaO zR) a,.val zx x_1] (λout=>[wI out]):=fw
instance i189 {c a b slope_3}:FI ktab 189 (zaI c a b slope_3) [.val (zaO zR) c,.val zx a,vI b,vI slope_3] (λout=>[.val zaX out.1,wB out.2]):=⟨λout ho=>by
 delta zaI at ho;refine fn λ_ _=>?_;refine gal λb1=>?_;refine gcl ho λy2 hy2 ho=>?_;refine gcl ho λy3 hy3 ho=>?_;refine gal λb4=>?_;refine zgu 0 ia' rfl Om Oa (.n rfl) rfl rfl (.t rfl) (.t rfl) Om ?_;refine zem (zjd (R:=zi .i64) 0 [10] Oa Oa rfl rfl ⟨rfl,trivial⟩) ?_;obtain ⟨x5,hx5,ho⟩:=bnd ho;refine run 3 ?_;refine zcs ia' hx5 (.n rfl) rfl rfl (.t rfl) (.i Oa Oa) ?_;obtain ⟨x6,hx6,ho⟩:=bnd ho;refine run 1 ?_;refine zcs ia' hx6 (.n rfl) rfl rfl (.t rfl) (.i Oa Oa) ?_;obtain ⟨x7,hx7,ho⟩:=bnd ho;refine run 2 ?_;refine zcs ia' hx7 (.n rfl) rfl rfl (.t rfl) (.i Oa Oa) ?_;obtain ⟨x8,hx8,ho⟩:=bnd ho;refine run 2 ?_;refine zcs ia' hx8 (.n rfl) rfl rfl (.t rfl) (.i Oa Oa) ?_;refine gal λb9=>?_;obtain ⟨ca,ha,ho⟩:=bnd ho;refine run 3 ?_;refine gcx ca [0,5,8,10,11,12,13,14] [0,1] (λt=>(.normal,λ_=>([(49,vB t)],[]))) ?_ λ_=>?_
 . have ho:=ha;refine wbr ho (λhc ho=>?_) λhc ho=>?_
   . exact lv [] [0,1] ho
   . refine wbr ho (λhd ho=>?_) λhd ho=>?_
     . exact lv [] [0,1] ho
     . exact lv [] [0,1] ho
 . refine gct ho (λhe ho=>?_) λhe ho=>?_
   . refine run 21 ?_;refine zgr (off:=0) (es':=[vI 0,vI (w64 (a.2.1+0))]) 0 iu' rfl zhO Og (.n rfl) rfl rfl (.t rfl) (.t rfl) Om ?_;obtain ⟨xa,hf,ho⟩:=bnd ho;refine run 3 ?_;refine zcs ia' hf (.n rfl) rfl rfl (.t rfl) (.i Oa Oa) ?_;obtain ⟨xb,hg,ho⟩:=bnd ho;refine run 4 ?_;refine zcs ia' hg (.n rfl) rfl rfl (.t rfl) (.i Oa Oa) ?_;obtain ⟨xd,hh,ho⟩:=bnd ho;refine run 4 ?_;refine zcs ia' hh (.n rfl) rfl rfl (.t rfl) (.i Oa Oa) ?_;obtain ⟨xe,hi,ho⟩:=bnd ho;refine run 4 ?_;refine zcs ia' hi (.n rfl) rfl rfl (.t rfl) (.i Oa Oa) ?_;obtain ⟨xn,hj,ho⟩:=bnd ho;refine run 19 ?_;refine zcs ia' hj (.n rfl) rfl rfl (.t rfl) (.i Oa Oa) ?_;obtain ⟨xf,ht,xo,hk,ho⟩:=zge ho;refine run 23 ?_;refine zcs ia' hk (.n rfl) rfl rfl (.t rfl) (.i Oa Oa) ?_;obtain ⟨xg,hu,ho⟩:=bnd ho;refine run 20 ?_;refine zax [0] Z ?_;refine glb (((0,w64 (a.2.1+0),()),(w64 (w64 (200*xa)*0),w64 (w64 (200*xb)*0),w64 (w64 (200*xd)*0),w64 (w64 (200*xe)*0),0,w64 (a.1*a.1),()),xf,xg,()):zbm) 0 ?_;exact we ho
   . refine run 18 ?_;refine zgr (off:=0) (es':=[vI (w64 (a.1+w64 (100*w64 (w64 (w64 (x5-x6)-x7)-x8)))),vI (w64 (a.2.1+w64 (a.1+w64 (100*w64 (w64 (w64 (x5-x6)-x7)-x8)))))]) 0 iu' rfl zhO Og (.n rfl) rfl rfl (.t rfl) (.t rfl) Om ?_;obtain ⟨xh,hl,ho⟩:=bnd ho;refine run 3 ?_;refine zcs ia' hl (.n rfl) rfl rfl (.t rfl) (.i Oa Oa) ?_;obtain ⟨xi,hm,ho⟩:=bnd ho;refine run 4 ?_;refine zcs ia' hm (.n rfl) rfl rfl (.t rfl) (.i Oa Oa) ?_;obtain ⟨xj,hn,ho⟩:=bnd ho;refine run 4 ?_;refine zcs ia' hn (.n rfl) rfl rfl (.t rfl) (.i Oa Oa) ?_;obtain ⟨xk,hp,ho⟩:=bnd ho;refine run 4 ?_;refine zcs ia' hp (.n rfl) rfl rfl (.t rfl) (.i Oa Oa) ?_;obtain ⟨xp,hr,ho⟩:=bnd ho;refine run 19 ?_;refine zcs ia' hr (.n rfl) rfl rfl (.t rfl) (.i Oa Oa) ?_;obtain ⟨xl,hv,xq,hs,ho⟩:=zge ho;refine run 23 ?_;refine zcs ia' hs (.n rfl) rfl rfl (.t rfl) (.i Oa Oa) ?_;obtain ⟨xm,hw,ho⟩:=bnd ho;refine run 20 ?_;refine zax [0] Z ?_;refine glb (((w64 (a.1+w64 (100*w64 (w64 (w64 (x5-x6)-x7)-x8))),w64 (a.2.1+w64 (a.1+w64 (100*w64 (w64 (w64 (x5-x6)-x7)-x8)))),()),(w64 (w64 (200*xh)*w64 (a.1+w64 (100*w64 (w64 (w64 (x5-x6)-x7)-x8)))),w64 (w64 (200*xi)*w64 (a.1+w64 (100*w64 (w64 (w64 (x5-x6)-x7)-x8)))),w64 (w64 (200*xj)*w64 (a.1+w64 (100*w64 (w64 (w64 (x5-x6)-x7)-x8)))),w64 (w64 (200*xk)*w64 (a.1+w64 (100*w64 (w64 (w64 (x5-x6)-x7)-x8)))),w64 (w64 (10000*w64 (w64 (w64 (x5-x6)-x7)-x8))*w64 (w64 (w64 (x5-x6)-x7)-x8)),0,()),xl,xm,()):zbm) 0 ?_
     exact we ho⟩
instance i238 {a x_1}:FI ktab 238 (zcH a x_1) [.val (zaO zaH) a,.val zx x_1] (λout=>[wI out]):=⟨λout ho=>by
 delta zcH at ho;refine fn λ_ _=>?_;refine gcl ho λy2 hy2 ho=>?_;refine gcl ho λy3 hy3 ho=>?_;obtain ⟨ta,ha,ho⟩:=bnd ho;refine glp ha [0,5] [] [] (λs g=>([(7,vI s.1),(8,vI s.2)],[])) (λb=>(.exit 0,λg=>([(7,vI b)],[]))) [] (λs8 g9 _ ho=>?_) λga=>?_
 . exact we ho
 . exact we ho⟩
instance i217 {a b stop_2}:FI ktab 217 (zbT a b stop_2) [.val (zaO zaH) a,.val zx b,vI stop_2] (λout=>[wB out]):=⟨λout ho=>by
 delta zbT at ho;refine fn λ_ _=>?_;obtain ⟨c9,hc9,ho⟩:=bnd ho;refine run 6 ?_;refine gcx c9 [] [] (λt=>(.normal,λ_=>([(6,vB t)],[]))) ?_ λ_=>?_
 . exact we hc9
 . exact rv ho⟩
end Go.Ai.TabYtfamdelkpempgaaGreat