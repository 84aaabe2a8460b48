/- Written by program: walks through functions. -/
import Derived.Test.YtfamdelkpempgaaGreatW11
set_option linter.unusedSimpArgs false
set_option linter.unusedVariables false
set_option linter.unusedSectionVars false
open Option renaming some→Ob,none→Oe
namespace Go.Ai.TabYtfamdelkpempgaaGreat
open Go Go.Ai Go.Ai.Sx Go.Proofs
attribute [local irreducible] zr
set_option maxRecDepth 100000
set_option maxHeartbeats 4000000
instance i40 {b a high_2}:FI ktab 40 (z5 b a high_2) [vI b,vI a,vI high_2] (λout=>[wB out]):=⟨λout ho=>by
 delta z5 at ho;refine fn λ_ _=>?_;obtain ⟨c4,hc4,ho⟩:=bnd ho;refine run 5 ?_;refine gcx c4 [] [] (λt=>(.normal,λ_=>([(6,vB t)],[]))) ?_ λ_=>?_
 . exact we hc4
 . exact rv ho⟩
instance i95 {l_0}:FI ktab 95 (zcn l_0) [.val zdP l_0] (λout=>[.val (zhG 2 zb0) out]):=⟨λout ho=>by
 delta zcn at ho;refine fn λ_ _=>?_;refine gal λb1=>?_;refine run 7 ?_;refine zmy (R:=zb0) (zc:=[.nsz,.nsz,.nsz,.nsz,.nsz,.nsz]) ia' Z Om (.n rfl) rfl rfl (.c (.t rfl) (.c (.t rfl) .n)) Om ?_;refine zgu 0 ia' rfl Om Oa (.n rfl) rfl rfl (.t rfl) (.t rfl) Om ?_;refine run 1 ?_;cases ho; exact zfr (zds (.inr rfl) (.a 0 ia' rfl rfl .n) Oa)⟩
instance i107 {b a high_2}:FI ktab 107 (zV b a high_2) [vI b,vI a,vI high_2] (λout=>[wB out]):=⟨λout ho=>by
 delta zV at ho;refine fn λ_ _=>?_;obtain ⟨c4,hc4,ho⟩:=bnd ho;refine run 5 ?_;refine gcx c4 [] [] (λt=>(.normal,λ_=>([(6,vB t)],[]))) ?_ λ_=>?_
 . exact we hc4
 . exact rv ho⟩
instance i170 {a f_1}:FI ktab 170 (zaz a f_1) [.val (ze zbZ) a,.val (rFn ktab zcw Bool (λx=>[.val zbZ x]) (λy=>[.val zaS y])) f_1] (λout=>[wI out]):=⟨λout ho=>by
 delta zaz at ho;refine fn λ_ _=>?_;obtain ⟨ta,ha,ho⟩:=bnd ho;refine gl2 ha ho [0,1,7] [] [] (λs g=>([(8,vI s)],[])) (λb=>(.exit 0,λg=>([],[]))) (λb=>(.ret,λg=>([(4,vI b)],[]))) [] (λs5 g6 _ ho=>?_) (λba ho ga=>?_) λbb ho ga=>?_
 . refine gct ho (λhq7 ho=>?_) λhq7 ho=>?_
   . obtain ⟨x8,hx8,y9,hy9,ho⟩:=zge ho;refine gcv hy9 ?_;exact we ho
   . exact lv [] [] ho
 . exact we ho
 . exact rv ho⟩
instance i143 {a f_1}:FI ktab 143 (zan a f_1) [.val (ze zbZ) a,.val (rFn ktab zcw Bool (λx=>[.val zbZ x]) (λy=>[.val zaS y])) f_1] (λout=>[wB out]):=fw
instance i171 {s_0}:FI ktab 171 (zc8 s_0) [.val zcP s_0] (λout=>[wB out]):=⟨λout ho=>by
 delta zc8 at ho;refine fn λ_ _=>?_;obtain ⟨c4,hc4,ho⟩:=bnd ho;refine run 6 ?_;refine gcx c4 [] [] (λt=>(.normal,λ_=>([(2,vB t)],[]))) ?_ λ_=>?_
 . exact we hc4
 . exact rv ho⟩
instance i172:FI ktab 172 zfw [] (λout=>[.val (zhG 7 (zi .i64)) out]):=⟨λout ho=>by
 delta zfw at ho;refine fn λ_ _=>?_;refine gal λb1=>?_;refine run 3 ?_;refine zn2 (R:=zi .i64) (zc:=[.int .i64 0,.int .i64 0,.int .i64 0,.int .i64 0,.int .i64 0,.int .i64 0,.int .i64 0]) 1 0 ia' Z Om (λ_ j hj=>(match j,hj with | 0,_=>zint)) (.n rfl) rfl rfl (.c (.i Oa Oa) (.c (.i Oa Oa) (.c (.i Oa Oa) (.c (.i Oa Oa) (.c (.i Oa Oa) (.c (.i Oa Oa) .n)))))) Om ?_;refine zgu 0 ia' rfl Om Oa (.n rfl) rfl rfl (.t rfl) (.t rfl) Om ?_;refine run 1 ?_;cases ho; exact zfr (zds (.inr rfl) (.a 0 ia' rfl rfl .n) Oa)⟩
instance i145 {n_0}:FI ktab 145 (zfc n_0) [.val zbZ n_0] (λout=>[wB out]):=⟨λout ho=>by
 delta zfc at ho;refine fn λ_ _=>?_;obtain ⟨ca,ha,ho⟩:=bnd ho;refine run 7 ?_;refine gcx ca [1] [] (λt=>(.normal,λ_=>([(26,vB t)],[]))) ?_ λ_=>?_
 . exact we ha
 . refine gct ho (λhc ho=>?_) λhc ho=>?_
   . exact we ho
   . obtain ⟨cc,hd,ho⟩:=bnd ho;refine run 3 ?_;refine gcx cc [1] [] (λt=>(.normal,λ_=>([(34,vB t)],[]))) ?_ λ_=>?_
     . exact we hd
     . exact we ho⟩
instance i144 {n_0}:FI ktab 144 (zfW n_0) [.val zbZ n_0] (λout=>[wB out]):=fw
instance i173 {a f_1}:FI ktab 173 (zaA a f_1) [.val (ze zdO) a,.val (rFn ktab Rail Bool (λx=>[.val zdO x]) (λy=>[.val zaS y])) f_1] (λout=>[wI out]):=⟨λout ho=>by
 delta zaA at ho;refine fn λ_ _=>?_;obtain ⟨ta,ha,ho⟩:=bnd ho;refine gl2 ha ho [0,1,7] [] [] (λs g=>([(8,vI s)],[])) (λb=>(.exit 0,λg=>([],[]))) (λb=>(.ret,λg=>([(4,vI b)],[]))) [] (λs5 g6 _ ho=>?_) (λba ho ga=>?_) λbb ho ga=>?_
 . refine gct ho (λhq7 ho=>?_) λhq7 ho=>?_
   . obtain ⟨x8,hx8,y9,hy9,ho⟩:=zge ho;refine gcv hy9 ?_;exact we ho
   . exact lv [] [] ho
 . exact we ho
 . exact rv ho⟩
instance i146 {a f_1}:FI ktab 146 (zao a f_1) [.val (ze zdO) a,.val (rFn ktab Rail Bool (λx=>[.val zdO x]) (λy=>[.val zaS y])) f_1] (λout=>[wB out]):=fw
instance i174 {n_1}:FI ktab 174 (zav n_1) [.raw .nsz,vI n_1] (λout=>[.row zcP out]):=⟨λout ho=>by
 delta zav at ho;refine fn λ_ _=>?_;refine run 2 ?_;refine zdF (.n rfl) rfl rfl (.nil (R:=zcP)) ?_;refine gct ho (λhq1 ho=>?_) λhq1 ho=>?_
 . refine run 1 ?_;cases ho
 . refine run 6 ?_;refine zjZ (et:=209) Z rfl (.n rfl) rfl rfl (.t rfl) ?_;refine run 1 ?_;refine zem (ziC zcP (n:=11) rfl) ?_;refine gct ho (λhq2 ho=>?_) λhq2 ho=>?_
   . refine run 3 ?_;refine zjZ (et:=209) Z rfl (.n rfl) rfl rfl (.t rfl) ?_;refine zsG (et:=209) (n:=2) Z Z (.n rfl) rfl rfl (.t rfl) (.t rfl) ?_;obtain ⟨x3,hx3,ho⟩:=bnd ho;refine run 1 ?_;refine zwq is' iy' iz' Z rfl hx3 rfl (.n rfl) rfl rfl (.t rfl) (.t rfl) rfl ?_;intro v4;refine run 1 ?_;refine zem (ziC zcP (n:=23) rfl) ?_;obtain ⟨x5,hx5,ho⟩:=bnd ho;refine run 1 ?_;refine zwr 0 is' (zsF hx5) (.n rfl) rfl rfl (.t rfl) rfl (.t rfl) rfl ?_;intro v6;exact we ho
   . refine run 6 ?_;cases ho;refine zlK (zdT zcP) ?_;exact zfr (zds (.inr rfl) (.r 0 rfl rfl .n) Oa)⟩
instance i150 {slices_0}:FI ktab 150 (zap slices_0) [.val (ze (ze zcP)) slices_0] (λout=>[.row zcP out]):=⟨λout ho=>by
 delta zap at ho;refine fn λ_ _=>?_;refine gnr zcP ?_;obtain ⟨t9,ht9,ho⟩:=bnd ho;refine glp ht9 [0,9,10] [] [] (λs g=>([(3,vI s.1),(11,vI s.2)],[])) (λb=>(.exit 0,λg=>([(3,vI b)],[]))) [] (λs4 g5 _ ho=>?_) λgb=>?_
 . refine gct ho (λhq6 ho=>?_) λhq6 ho=>?_
   . obtain ⟨x7,hx7,ho⟩:=bnd ho;refine gct ho (λhq8 ho=>?_) λhq8 ho=>?_
     . refine run 1 ?_;cases ho
     . exact we ho
   . exact lv [] [] ho
 . obtain ⟨ya,ha,ho⟩:=bnd ho;refine run 3 ?_;refine zhj (i174.ok _ ha) (.r (zcD zdI (zcD zdI zhi)) .n) rfl (.n rfl) rfl rfl rfl .f (.c (.o .nilr) (.c (.o (.t rfl)) .n)) ?_;intro va;show zr ..;obtain ⟨ta,hc,ho⟩:=bnd ho;refine glp hc [25,26] [] [0] (λs g=>([(6,.raw (gh g 0)),(27,vI s.2)],[(gh g 0,.row zcP s.1)])) (λb=>(.exit 2,λg=>([(6,.raw (gh g 0))],[(gh g 0,.row zcP b)]))) [va] (λsa ga _ ho=>?_) λgc=>?_
   . refine gct ho (λhd ho=>?_) λhd ho=>?_
     . obtain ⟨xa,he,xb,hf,ho⟩:=zge ho;refine gap λvb=>?_;exact lv [vb] [0] ho
     . exact lv [gh ga 0] [0] ho
   . exact we ho⟩
instance i103 {a r_1}:FI ktab 103 (zei a r_1) [.val zbI a,.val zdO r_1] (λout=>[.row zcP out]):=⟨λout ho=>by
 delta zei at ho;refine fn λ_ _=>?_;refine gnr zcP ?_;obtain ⟨x5,hx5,x6,hx6,ho⟩:=zge ho;refine gcl ho λy7 hy7 ho=>?_;intro v8;exact we ho⟩
instance i151 {n_0}:FI ktab 151 (zfd n_0) [vI n_0] (λout=>[wI out]):=⟨λout ho=>by
 delta zfd at ho;refine fn λ_ _=>?_;refine run 7 ?_;refine zBl Z Z (.n rfl) rfl rfl (.t rfl) ?_;obtain ⟨x1,hx1,ho⟩:=bnd ho;refine zzG (p:=zrh) rfl (zu6 hx1) (λ_=>zp6) (.n rfl) rfl rfl rfl .f (zBk (.t rfl)) ?_;obtain ⟨x2,hx2,ho⟩:=bnd ho;refine zBm Z Z hx2 (.n rfl) rfl rfl (.t rfl) ?_;obtain ⟨t7,ht7,ho⟩:=bnd ho;refine glp ht7 [0] [] [] (λs g=>([(3,vI s)],[])) (λb=>(.exit 0,λg=>([(3,vI b)],[]))) [] (λs4 g5 _ ho=>?_) λg8=>?_
 . exact we ho
 . obtain ⟨ta,ha,ho⟩:=bnd ho;refine glp ha [0] [] [] (λs g=>([(3,vI s)],[])) (λb=>(.exit 2,λg=>([(3,vI b)],[]))) [] (λsa ga _ ho=>?_) λgb=>?_
   . exact we ho
   . exact we ho⟩
instance i104 {a b_1}:FI ktab 104 (zc9 a b_1) [.val zcP a,.val zcP b_1] (λout=>[wI out]):=fw
instance i148 {a r_1}:FI ktab 148 (zfe a r_1) [.val zbI a,.val zdO r_1] (λout=>[wB out]):=⟨λout ho=>by
 delta zfe at ho;refine fn λ_ _=>?_;obtain ⟨c9,hc9,ho⟩:=bnd ho;refine run 8 ?_;refine gcx c9 [2,3] [] (λt=>(.normal,λ_=>([(43,vB t)],[]))) ?_ λ_=>?_
 . exact we hc9
 . refine gct ho (λha ho=>?_) λha ho=>?_
   . exact we ho
   . refine gcl ho λya hh ho=>?_;intro va;show zr ..;obtain ⟨ta,hc,ho⟩:=bnd ho;refine gl2 hc ho [5,47,48] [] [0] (λs g=>([(49,vI s)],[(va,.row zcP ya)])) (λb=>(.exit 0,λg=>([],[]))) (λb=>(.ret,λg=>([(4,vB b)],[]))) [] (λsa gb _ ho=>?_) (λba ho ga=>?_) λbb ho ga=>?_
     . refine gct ho (λhd ho=>?_) λhd ho=>?_
       . obtain ⟨xa,hi,ho⟩:=bnd ho;refine gal λbc=>?_;refine gfz 2 zcP xa 0 [7] ?_;refine run 2 ?_;refine zax [11] Z ?_;refine gcl ho λyb hj ho=>?_;refine wbr ho (λhe ho=>?_) λhe ho=>?_
         . refine gk ?_;exact we ho
         . refine wbr ho (λhf ho=>?_) λhf ho=>?_
           . obtain ⟨xb,hk,ho⟩:=bnd ho;refine gcl ho λyc hl ho=>?_;refine gcl ho λyd hm ho=>?_;refine gct ho (λhg ho=>?_) λhg ho=>?_
             . exact we ho
             . exact lv [] [0] ho
           . refine gk ?_;exact lv [] [0] ho
       . exact lv [] [] ho
     . exact we ho
     . exact rv ho⟩
instance i147 {a p_1}:FI ktab 147 (zez a p_1) [.val zdO a,.val (zaO zbI) p_1] (λout=>[wB out]):=fw
instance i149 {a e_1}:FI ktab 149 (zcQ a e_1) [.val zbI a,.val zZ e_1] (λout=>[wI out]):=fw
instance i102 {p_0}:FI ktab 102 (zdL p_0) [.val zbI p_0] (λout=>[wI out]):=⟨λout ho=>by
 delta zdL at ho;refine fn λ_ _=>?_;obtain ⟨c4,hc4,ho⟩:=bnd ho;refine run 7 ?_;refine gcx c4 [1] [] (λt=>(.normal,λ_=>([(19,vB t)],[]))) ?_ λ_=>?_
 . exact we hc4
 . refine gct ho (λhq8 ho=>?_) λhq8 ho=>?_
   . exact we ho
   . obtain ⟨ca,hd,ho⟩:=bnd ho;refine run 3 ?_;refine gcx ca [1] [] (λt=>(.normal,λ_=>([(28,vB t)],[]))) ?_ λ_=>?_
     . have ho:=hd;obtain ⟨ya,he,ho⟩:=bnd ho;refine run 3 ?_;refine zhj (i143.ok _ he) (.v zgs .n) rfl (.n rfl) rfl rfl rfl .f (.c (.o (.t rfl)) (.c (.o (.fv (zhN (λx y hf=>i144.ok _ hf) rfl))) .n)) ?_;show zr ..;refine wbr ho (λha ho=>?_) λha ho=>?_
       . exact we ho
       . refine run 3 ?_;refine zhM (X:=Rail) (Y:=Bool) (λx=>[.val zdO x]) (λy=>[.val zaS y]) (f:=(λx=>zez x p_0)) (λx y hf=>i147.ok _ hf) rfl (.g rfl rfl (gf0 ha)) rfl rfl .n (.c (.t rfl) .n) ?_;exact we ho
     . refine gct ho (λhg ho=>?_) λhg ho=>?_
       . exact we ho
       . refine run 3 ?_;refine zo8 zaS zxC rfl (.n rfl) rfl rfl ?_;intro ba;obtain ⟨ta,hh,ho⟩:=bnd ho;refine gl2 hh ho [1,31,32] [] [0] (λs g=>([(3,.raw (.map ba)),(33,vI s.1)],[(.map ba,.mp zZ zaS s.2)])) (λb=>(.exit 0,λg=>([(3,.raw (.map ba))],[(.map ba,.mp zZ zaS b)]))) (λb=>(.ret,λg=>([(2,vI b)],[]))) [] (λsa gc _ ho=>?_) (λbb ho ga=>?_) λbc ho ga=>?_
         . refine gct ho (λhi ho=>?_) λhi ho=>?_
           . obtain ⟨xa,hp,ho⟩:=bnd ho;refine gal λbd=>?_;refine gfz 2 zbZ xa 0 [5] ?_;obtain ⟨tb,hj,ho⟩:=bnd ho;refine gl2 hj ho [1,3,4,31,32,33,39,40] [] [0] (λs g=>([(41,vI s.1)],[(.map ba,.mp zZ zaS s.2)])) (λb=>(.exit 2,λg=>([],[(.map ba,.mp zZ zaS b)]))) (λb=>(.ret,λg=>([(2,vI b.1)],[]))) [] (λsb gd _ ho=>?_) (λbe ho gb=>?_) λbf ho gb=>?_
             . refine gct ho (λhk ho=>?_) λhk ho=>?_
               . obtain ⟨xb,hr,ho⟩:=bnd ho;refine gal λbg=>?_;refine gfz 1 zZ xb 0 [7] ?_;refine gcl ho λyb hs ho=>?_;refine wbr ho (λhc ho=>?_) λhc ho=>?_
                 . refine gk ?_;exact we ho
                 . refine run 4 ?_;refine zzU 0 rfl zxC iz' rfl (.g rfl rfl (gf0 hc)) rfl rfl (.t rfl) (.t rfl) ?_;refine wbr ho (λhl ho=>?_) λhl ho=>?_
                   . refine gk ?_;exact we ho
                   . refine gcl ho λyc ht ho=>?_;refine gct ho (λhm ho=>?_) λhm ho=>?_
                     . exact we ho
                     . refine run 4 ?_;refine zp4 0 zxC (.inl rfl) rfl (.n rfl) rfl (.t rfl) (.t rfl) .b rfl ?_;exact lv [] [0] ho
               . exact lv [] [0] ho
             . exact lv [] [0] ho
             . cases ho; exact id (lf [] [])
           . exact lv [] [0] ho
         . obtain ⟨xd,hn,ho⟩:=bnd ho;refine run 4 ?_;refine zzW (st:=264) (kt:=215) (et:=4) 0 rfl Z hn rfl rfl (.n rfl) rfl rfl (.t rfl) ?_;exact we ho
         . exact rv ho⟩
instance i47 {p_0}:FI ktab 47 (zdw p_0) [.val zbI p_0] (λout=>[.val (zeU zai) out.1,wB out.2]):=⟨λout ho=>by
 delta zdw at ho;refine fn λ_ _=>?_;refine run 3 ?_;refine zal rfl (.n rfl) rfl (e:=.val (zeU zai) Oe) (λz fr h s=>⟨_,rfl,zce⟩) ?_;refine gcl ho λy1 hy1 ho=>?_;refine gct ho (λhq2 ho=>?_) λhq2 ho=>?_
 . refine run 2 ?_;refine zal rfl (.n rfl) rfl (e:=.val (zeU zai) Oe) (λz fr h s=>⟨_,rfl,zce⟩) ?_;exact we ho
 . refine run 4 ?_;refine zo8 (zi .i64) zxB rfl (.n rfl) rfl rfl ?_;intro b3;refine zem (znX (n:=18) rfl) ?_;refine zku (R:=zjb) zBs (.n rfl) rfl rfl rfl (.p (.t rfl) rfl (.z (λ_=>zrg) (.p (.t rfl) rfl (.n rfl)))) ?_;refine xbo λb4=>?_;refine zem (zfJ (q:=2) 0 rfl rfl rfl) ?_;refine zem (zdT (zi .i64)) ?_;refine zem (zlP (q:=3) 1 rfl rfl rfl) ?_;obtain ⟨ta,ha,ho⟩:=bnd ho;refine glp ha [1,4,22,23] [2] [1,0,2] (λs g=>([(24,vI s.1)],[(.ptr b4 0,.box [.val (ze zbZ) p_0.1,.val (ze zdO) p_0.2.1,.raw (gh g 0),.raw (.map b3)]),(gh g 0,.row (zi .i64) s.2)])) (λb=>(.exit 0,λg=>([],[(.ptr b4 0,.box [.val (ze zbZ) p_0.1,.val (ze zdO) p_0.2.1,.raw (gh g 0),.raw (.map b3)]),(gh g 0,.row (zi .i64) b)]))) [.nsz] (λsa ga _ ho=>?_) λgb=>?_
   . refine gct ho (λhc ho=>?_) λhc ho=>?_
     . obtain ⟨xa,hj,ho⟩:=bnd ho;refine gal λba=>?_;refine gfz 1 zdO xa 0 [6] ?_;refine gcl ho λya hk ho=>?_;intro va;show zr ..;obtain ⟨tc,hd,ho⟩:=bnd ho;refine glp hd [1,4,7,22,23,24] [1,2,3] [0,1,2,3] (λs g=>([(8,vI s.1),(9,vI s.2)],[(va,.row zcP ya)])) (λb=>(.exit 2,λg=>([(8,vI b)],[]))) [] (λsb gc _ ho=>?_) λgd=>?_
       . refine gct ho (λhe ho=>?_) λhe ho=>?_
         . refine run 3 ?_;refine zax [5,9] Z ?_;obtain ⟨xe,hl,xf,hm,ho⟩:=zge ho;refine gcl ho λyb hn ho=>?_;exact lv [] [0,1,2,3] ho
         . exact lv [] [1,2,3] ho
       . obtain ⟨xg,hp,ho⟩:=bnd ho;refine gap λvb=>?_;refine run 2 ?_;refine zdU 1 0 (U27).sz rfl rfl Og (.n rfl) rfl rfl (.t rfl) (.t rfl) Om ?_;exact lv [vb] [1,0,2] ho
     . exact lv [gh ga 0] [0,1,2] ho
   . obtain ⟨tb,hf,ho⟩:=bnd ho;refine glp hf [4,61,62] [0,1] [2,0,1] (λs g=>([(63,vI s.1)],[(.map b3,.mp zZ (zi .i64) s.2)])) (λb=>(.exit 4,λg=>([],[(.map b3,.mp zZ (zi .i64) b)]))) [] (λsc ge _ ho=>?_) λgf=>?_
     . refine gct ho (λhg ho=>?_) λhg ho=>?_
       . obtain ⟨xb,hr,ho⟩:=bnd ho;refine gal λbb=>?_;refine gfz 1 zbZ xb 0 [11] ?_;obtain ⟨td,hh,ho⟩:=bnd ho;refine glp hh [4,61,62,63,68,69] [1,2] [0,1,2] (λs g=>([(70,vI s.1)],[(.map b3,.mp zZ (zi .i64) s.2)])) (λb=>(.exit 6,λg=>([],[(.map b3,.mp zZ (zi .i64) b)]))) [] (λsd gg _ ho=>?_) λgi=>?_
         . refine gct ho (λhi ho=>?_) λhi ho=>?_
           . obtain ⟨xd,hs,ho⟩:=bnd ho;refine gal λbc=>?_;refine gfz 2 zZ xd 0 [13] ?_;refine run 1 ?_;refine zax [3] Z ?_;refine run 6 ?_;refine zp4 0 zxB (.inl rfl) rfl (.n rfl) rfl (.t rfl) (.t rfl) (.t rfl) rfl ?_;exact lv [] [0,1,2] ho
           . exact lv [] [0,1,2] ho
         . exact lv [] [0,1,2] ho
       . exact lv [] [0,1,2] ho
     . refine run 6 ?_;cases ho;refine zlK (zkF 0 0 (q:=3) [] rfl rfl rfl rfl Om trivial) ?_;refine zlK (zeS 1 0 (q:=2) [] rfl rfl rfl rfl Om trivial) ?_;refine zlK (zdH (R:=zai) (a:=((p_0.1,p_0.2.1,()),ta,tb,())) 0 [4,83,2] (zj (zj (zm rfl) (zj (zm rfl) za1 rfl) rfl) (zj (zm rfl) (zj (zm rfl) za1 rfl) rfl) rfl) rfl rfl ⟨rfl,rfl,rfl,trivial⟩) ?_;refine zlK (zkE (n:=2) rfl) ?_;exact zfr (zds (.inr rfl) (.v rfl (.v rfl .n)) Oa)⟩
instance i105 {a m_1}:FI ktab 105 (zbP a m_1) [.val (zaO zai) a,.val zT m_1] (λout=>[wB out]):=fw
instance i137 {a rail_1}:FI ktab 137 (zbb a rail_1) [.val zbI a,vI rail_1] (λout=>[wI out.1,wI out.2]):=⟨λout ho=>by
 delta zbb at ho;refine fn λ_ _=>?_;refine gcl ho λy1 hy1 ho=>?_;obtain ⟨c5,hc5,ho⟩:=bnd ho;refine run 8 ?_;refine gcx c5 [1,6] [] (λt=>(.normal,λ_=>([(21,vB t)],[]))) ?_ λ_=>?_
 . have ho:=hc5;refine wbr ho (λhb6 ho=>?_) λhb6 ho=>?_
   . exact we ho
   . obtain ⟨p7,hp7,ho⟩:=bnd ho;refine run 7 ?_;refine zem (zb7 (n:=16) hp7 rfl) ?_;exact we ho
 . refine gct ho (λhq9 ho=>?_) λhq9 ho=>?_
   . exact we ho
   . obtain ⟨pa,ha,ho⟩:=bnd ho;refine run 4 ?_;refine zem (zb7 (n:=22) ha rfl) ?_;exact we ho⟩
instance i177 {m_0}:FI ktab 177 (zeA m_0) [.val zT m_0] (λout=>[.val zZ out]):=fw
instance i193 {b a to_2}:FI ktab 193 (zfX b a to_2) [.val zay b,vI a,vI to_2] (λout=>[wB out]):=fw
instance i194 {b a to_2}:FI ktab 194 (zff b a to_2) [.val zay b,vI a,vI to_2] (λout=>[wB out]):=fw
instance i195 {b a to_2}:FI ktab 195 (zb3 b a to_2) [.val zay b,vI a,vI to_2] (λout=>[wB out]):=⟨λout ho=>by
 delta zb3 at ho;refine fn λ_ _=>?_;obtain ⟨c4,hc4,ho⟩:=bnd ho;refine run 6 ?_;refine gcx c4 [] [] (λt=>(.normal,λ_=>([(6,vB t)],[]))) ?_ λ_=>?_
 . exact we hc4
 . exact rv ho⟩
instance i196 {b a to_2}:FI ktab 196 (zcr b a to_2) [.val zay b,vI a,vI to_2] (λout=>[wB out]):=⟨λout ho=>by
 delta zcr at ho;refine fn λ_ _=>?_;obtain ⟨c4,hc4,ho⟩:=bnd ho;refine run 6 ?_;refine gcx c4 [] [] (λt=>(.normal,λ_=>([(6,vB t)],[]))) ?_ λ_=>?_
 . exact we hc4
 . exact rv ho⟩
instance i197 {b a to_2}:FI ktab 197 (zbJ b a to_2) [.val zay b,vI a,vI to_2] (λout=>[wB out]):=⟨λout ho=>by
 delta zbJ at ho;refine fn λ_ _=>?_;obtain ⟨c5,hc5,ho⟩:=bnd ho;refine run 6 ?_;refine gcx c5 [] [] (λt=>(.normal,λ_=>([(6,vB t)],[]))) ?_ λ_=>?_
 . exact we hc5
 . exact rv ho⟩
instance i198 {b a to_2}:FI ktab 198 (zbK b a to_2) [.val zay b,vI a,vI to_2] (λout=>[wB out]):=⟨λout ho=>by
 delta zbK at ho;refine fn λ_ _=>?_;obtain ⟨c5,hc5,ho⟩:=bnd ho;refine run 6 ?_;refine gcx c5 [] [] (λt=>(.normal,λ_=>([(6,vB t)],[]))) ?_ λ_=>?_
 . exact we hc5
 . exact rv ho⟩
instance i178 {b a to_2}:FI ktab 178 (zby b a to_2) [.val zay b,vI a,vI to_2] (λout=>[wB out]):=⟨λout ho=>by
 delta zby at ho;refine fn λ_ _=>?_;refine run 7 ?_;refine zn2 (R:=rFn ktab (zaG×Int×Int) Bool (λx=>[.val zay x.1,.val (zi .i64) x.2.1,.val (zi .i64) x.2.2]) (λy=>[.val zaS y])) (zc:=[.nfz,.nfz,.nfz,.nfz,.nfz,.nfz,.nfz]) 1 (λ_=>Oe) ia' Z Om (λ_ j hj=>(match j,hj with | 0,_=>zBa)) (.n rfl) rfl rfl (.c (.fv (zhN (λx y hf=>i193.ok _ hf) rfl)) (.c (.fv (zhN (λx y hf=>i194.ok _ hf) rfl)) (.c (.fv (zhN (λx y hf=>i195.ok _ hf) rfl)) (.c (.fv (zhN (λx y hf=>i196.ok _ hf) rfl)) (.c (.fv (zhN (λx y hf=>i197.ok _ hf) rfl)) (.c (.fv (zhN (λx y hf=>i198.ok _ hf) rfl)) .n)))))) Om ?_;refine gal λb1=>?_;refine zgu 0 ia' rfl Om Oa (.n rfl) rfl rfl (.t rfl) (.t rfl) Om ?_;refine zem (zjd (R:=rFn ktab (zaG×Int×Int) Bool (λx=>[.val zay x.1,.val (zi .i64) x.2.1,.val (zi .i64) x.2.2]) (λy=>[.val zaS y])) 0 [7] Oa Oa rfl rfl ⟨rfl,trivial⟩) ?_;obtain ⟨x4,hx4,ho⟩:=bnd ho;refine run 6 ?_;refine zcs ia' hx4 (.n rfl) rfl rfl (.t rfl) (.t rfl) ?_;obtain ⟨y5,hy5,ho⟩:=bnd ho;refine gcv hy5 ?_;exact we ho⟩
instance i179 {m_0}:FI ktab 179 (zdX m_0) [.val zT m_0] (λout=>[wI out]):=fw
instance i101 {x_0}:FI ktab 101 (zbr x_0) [vI x_0] (λout=>[wB out]):=fw
instance i226 {a y_1}:FI ktab 226 (zbc a y_1) [vI a,vI y_1] (λout=>[wB out]):=⟨λout ho=>by
 delta zbc at ho;refine fn λ_ _=>?_;obtain ⟨c5,hc5,ho⟩:=bnd ho;refine run 5 ?_;refine gcx c5 [] [] (λt=>(.normal,λ_=>([(4,vB t)],[]))) ?_ λ_=>?_
 . exact we hc5
 . exact rv ho⟩
theorem zd3 {c d e out} (ho:z9 c d e=Ob out) (a:zb):zh1 ktab 220 [.raw a,.val (zi .i64) d,.val (zi .i64) e] [(a,.row (zi .i64) c)] [] (λγ=>[(a,.row (zi .i64) out)]):=by
 refine zeT (F:=Tryz.f220) Om Om Om (λC=>?_);delta z9 at ho;obtain ⟨ta,ha,ho⟩:=bnd ho;refine glp ha [0,1,2] [] [0] (λs g=>([(6,vI s.1)],[(a,.row (zi .i64) s.2)])) (λb=>(.exit 0,λg=>([],[(a,.row (zi .i64) b)]))) [] (λsa ga _ ho=>?_) λgb=>?_
 . refine gct ho (λhc ho=>?_) λhc ho=>?_
   . obtain ⟨tb,hd,ho⟩:=bnd ho;refine glp hd [0,1,2,6] [] [0] (λs g=>([(7,vI s.1)],[(a,.row (zi .i64) s.2)])) (λb=>(.exit 2,λg=>([],[(a,.row (zi .i64) b)]))) [] (λsb gc _ ho=>?_) λgd=>?_
     . refine run 2 ?_;refine zax [7,12] Z ?_;refine wbr ho (λhe ho=>?_) λhe ho=>?_
       . obtain ⟨xa,hg,xb,hh,ho⟩:=zge ho;refine gcl ho λya hi ho=>?_;refine gct ho (λhf ho=>?_) λhf ho=>?_
         . refine run 3 ?_;refine zax [9,13] Z ?_;obtain ⟨xd,hj,xe,hk,ho⟩:=zge ho;refine run 14 ?_;obtain ⟨xf,hl,xg,hm,ho⟩:=zge ho;exact lv [] [0] ho
         . exact lv [] [0] ho
       . refine gk ?_;exact lv [] [0] ho
     . exact lv [] [0] ho
   . exact lv [] [0] ho
 . cases ho; exact id (za7 [0] [] (.inl rfl) .n rfl Oa)
end Go.Ai.TabYtfamdelkpempgaaGreat
namespace Go.Ai.TabYtfamdelkpempgaaGreat
open Go Go.Ai Go.Ai.Sx Go.Proofs
attribute [local irreducible] zr
set_option maxRecDepth 100000
set_option maxHeartbeats 4000000
instance i230 {x_0}:FI ktab 230 (zeX x_0) [.val (zi .u64) x_0] (λout=>[wI out]):=⟨λout ho=>by
 delta zeX at ho;refine fn λ_ _=>?_;refine gct ho (λhq1 ho=>?_) λhq1 ho=>?_
 . obtain ⟨x2,hx2,ho⟩:=bnd ho;refine gct ho (λhq3 ho=>?_) λhq3 ho=>?_
   . obtain ⟨x4,hx4,ho⟩:=bnd ho;refine gct ho (λhq5 ho=>?_) λhq5 ho=>?_
     . obtain ⟨x6,hx6,x7,hx7,ho⟩:=zge ho;refine run 16 ?_;refine zhk (tbl:=zdQ) Z Z hx7 (.n rfl) rfl rfl (.t rfl) ?_;exact we ho
     . obtain ⟨x8,hx8,ho⟩:=bnd ho;refine run 6 ?_;refine zhk (tbl:=zdQ) Z Z hx8 (.n rfl) rfl rfl (.t rfl) ?_;exact we ho
   . refine gct ho (λhq9 ho=>?_) λhq9 ho=>?_
     . obtain ⟨xa,hk,xb,ha,ho⟩:=zge ho;refine run 16 ?_;refine zhk (tbl:=zdQ) Z Z ha (.n rfl) rfl rfl (.t rfl) ?_;exact we ho
     . obtain ⟨xd,hc,ho⟩:=bnd ho;refine run 6 ?_;refine zhk (tbl:=zdQ) Z Z hc (.n rfl) rfl rfl (.t rfl) ?_;exact we ho
 . refine gct ho (λhd ho=>?_) λhd ho=>?_
   . obtain ⟨xe,hl,ho⟩:=bnd ho;refine gct ho (λhe ho=>?_) λhe ho=>?_
     . obtain ⟨xf,hm,xg,hf,ho⟩:=zge ho;refine run 16 ?_;refine zhk (tbl:=zdQ) Z Z hf (.n rfl) rfl rfl (.t rfl) ?_;exact we ho
     . obtain ⟨xh,hg,ho⟩:=bnd ho;refine run 6 ?_;refine zhk (tbl:=zdQ) Z Z hg (.n rfl) rfl rfl (.t rfl) ?_;exact we ho
   . refine gct ho (λhh ho=>?_) λhh ho=>?_
     . obtain ⟨xi,hn,xj,hi,ho⟩:=zge ho;refine run 16 ?_;refine zhk (tbl:=zdQ) Z Z hi (.n rfl) rfl rfl (.t rfl) ?_;exact we ho
     . obtain ⟨xk,hj,ho⟩:=bnd ho;refine run 6 ?_;refine zhk (tbl:=zdQ) Z Z hj (.n rfl) rfl rfl (.t rfl) ?_;exact we ho⟩
instance i200 {x_0}:FI ktab 200 (zeB x_0) [.val (zi .u64) x_0] (λout=>[wI out]):=⟨λout ho=>by
 delta zeB at ho;refine fn λ_ _=>?_;refine gk ?_;exact we ho⟩
theorem zfk {c e f a out} (ho:zbs c e f a=Ob out) (d:zb):zh1 ktab 199 [.raw d,.val (zi .i64) e,.val (zi .i64) f,.val (zi .i64) a] [(d,.row (zi .i64) c)] [] (λγ=>[(d,.row (zi .i64) out)]):=by
 refine zeT (F:=Tryz.f199) Om Om Om (λC=>?_);delta zbs at ho;obtain ⟨ta,ha,ho⟩:=bnd ho;refine glp ha [0] [] [0] (λs g=>([(1,vI s.1),(2,vI s.2.1),(3,vI s.2.2.1),(8,vB s.d3.1),(9,vB s.d4.1)],[(d,.row (zi .i64) s.d5)])) (λb=>(.ret,λg=>([],[(d,.row (zi .i64) b)]))) [] (λsa ga _ ho=>?_) λgb=>?_
 . refine gct ho (λhc ho=>?_) λhc ho=>?_
   . obtain ⟨ya,hd,ho⟩:=bnd ho;refine gcm [0] [] (zd3 hd d) ?_;intro gc;show zr ..;exact lv [] [0] ho
   . refine gct ho (λhe ho=>?_) λhe ho=>?_
     . refine run 5 ?_;cases ho
     . refine gct ho (λhf ho=>?_) λhf ho=>?_
       . refine run 5 ?_;cases ho
       . refine run 6 ?_;cases ho
 . cases ho; exact id (za7 [0] [] (.inr rfl) .n rfl Oa)
theorem zgC {b out} (ho:zb4 b=Ob out) (a:zb):zh1 ktab 180 [.raw a] [(a,.row (zi .i64) b)] [] (λγ=>[(a,.row (zi .i64) out)]):=by
 refine zeT (F:=Tryz.f180) Om Om Om (λC=>?_);delta zb4 at ho;refine gcl ho λy1 hy1 ho=>?_;obtain ⟨y2,hy2,ho⟩:=bnd ho;refine gcm [0] [] (zfk hy2 a) ?_;intro g3;show zr ..;cases ho; exact zfp (za7 [0] [] (.inl rfl) .n rfl Oa)
instance i181 {n_0}:FI ktab 181 (zfg n_0) [vI n_0] (λout=>[.val zT out]):=fw
theorem zf6 {σ τ:Type} {step:σ->zL->Option (σ⊕τ)} {yv:zb} {K:σ⊕τ->List zb->Sx.Obj} (hcb:zra ktab yv (λx=>[.val zT x]) step K) {s_:σ} {d a out} (ho:zbL step s_ d a=Ob out) (γ0:List zb):zh1 ktab 176 [.raw yv,.val (zaO (zaO zai)) d,.val (zaO zT) a] [(yv,K (.inl s_) γ0)] [] (λγ=>[(yv,K out (untup (gh γ 0)))]):=by
 refine zeT (F:=Tryz.f176) Om Om Om (λC=>?_);delta zbL at ho;refine gcl ho λy5 hy5 ho=>?_;refine gcl ho λy6 hy6 ho=>?_;obtain ⟨x7,hx7,ho⟩:=bnd ho;refine gal λb8=>?_;refine gfz 1 zbZ x7 0 [4] ?_;refine gnr (zi .i64) ?_;obtain ⟨ta,ha,ho⟩:=bnd ho;refine glp ha [0,1,2,4,25,26] [] [1,0] (λs g=>([(5,.raw (gh g 0)),(27,vI s.2)],[(yv,K (.inl s_) γ0),(gh g 0,.row (zi .i64) s.1)])) (λb=>(.exit 0,λg=>([(5,.raw (gh g 0))],[(yv,K (.inl s_) γ0),(gh g 0,.row (zi .i64) b)]))) [.nsz] (λsa gb _ ho=>?_) λgc=>?_
 . refine gct ho (λhc ho=>?_) λhc ho=>?_
   . obtain ⟨xa,hj,ho⟩:=bnd ho;refine gal λba=>?_;refine gfz 2 zZ xa 0 [7] ?_;refine gcl ho λyb hk ho=>?_;refine zxo zxB iz' (.n rfl) rfl rfl (.t rfl) (.t rfl) ?_;refine gcl ho λyc hl ho=>?_;refine gct ho (λhd ho=>?_) λhd ho=>?_
     . refine gcl ho λyd hm ho=>?_;obtain ⟨xb,hn,ho⟩:=bnd ho;refine gap λvb=>?_;exact lv [vb] [1,0] ho
     . exact lv [gh gb 0] [0,1] ho
   . exact lv [gh gb 0] [0,1] ho
 . obtain ⟨ya,he,ho⟩:=bnd ho;refine gcm [1] [0] (zgC he (gh gc 0)) ?_;intro ge;show zr ..;obtain ⟨tb,hf,ho⟩:=bnd ho;refine gl2 hf ho [0,55,56] [] [0,1] (λs g=>([(57,vI s.1)],[(gh gc 0,.row (zi .i64) ya),(yv,K s.2 (untup (gh g 0)))])) (λb=>(.exit 2,λg=>([],[(yv,K b (untup (gh g 0)))]))) (λb=>(.ret,λg=>([],[(yv,K b (untup (gh g 0)))]))) [.tuple γ0] (λsb gd _ ho=>?_) (λbb ho ga=>?_) λbc ho ga=>?_
   . refine gct ho (λhg ho=>?_) λhg ho=>?_
     . obtain ⟨xd,hp,ho⟩:=bnd ho;refine gcl ho λye hr ho=>?_;obtain ⟨sc,hs55,ho⟩:=bnd ho;refine zem (znV (K:=K) 1 (zja hs55) rfl rfl) ?_;obtain ⟨yf,hh,ho⟩:=bnd ho;refine zkA [1] [0] (λ_ h=>by cases h) hcb hh rfl rfl rfl Oa (.n rfl) rfl rfl rfl (.t rfl) (.c (.t rfl) .n) ?_;intro va;refine gct ho (λhi ho=>?_) λhi ho=>?_
       . exact lv [.tuple va] [0] ho
       . exact lv [.tuple va] [1,0] ho
     . exact lv [.tuple (untup (gh gd 0))] [1] ho
   . cases ho; exact id (za7 [0] [.tuple (untup (gh ga 0))] (.inl rfl) .n rfl Oa)
   . cases ho; exact id (za7 [0] [.tuple (untup (gh ga 0))] (.inr rfl) .n rfl Oa)
theorem zgk {σ τ:Type} {step:σ->zL->Option (σ⊕τ)} {yv:zb} {K:σ⊕τ->List zb->Sx.Obj} (hcb:zra ktab yv (λx=>[.val zT x]) step K) {s_:σ} {b a out} (ho:zbL step s_ b a=Ob out) (γ0:List zb):zh1 ktab 176 [.raw yv,.val (zaO (zaO zai)) b,.val (zaO zT) a] [(yv,K (.inl s_) γ0)] [] (λγ=>[(yv,K out γ)]):=
 zmB (zf6 hcb ho γ0)
instance i152 {a m_1}:FI ktab 152 (zcU a m_1) [.val (zaO zai) a,.val zT m_1] (λout=>[.val (zq8 176 [] [.val (zaO (zaO zai)) out.1,.val (zaO zT) out.2]) ()]):=⟨λout ho=>by
 delta zcU at ho;refine fn λ_ _=>?_;refine run 4 ?_;refine zal rfl (.n rfl) rfl (e:=.raw .nfz) (λz fr h s=>⟨_,rfl,by simp only [TE.ok]; rfl⟩) ?_;refine run 3 ?_;refine zmz (.n rfl) rfl rfl .n (.c (.t rfl) (.c (.t rfl) .n)) ?_;exact we ho⟩
end Go.Ai.TabYtfamdelkpempgaaGreat