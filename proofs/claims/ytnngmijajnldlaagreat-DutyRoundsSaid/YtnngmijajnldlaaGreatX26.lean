/- Written by program: walks through functions. -/
import Derived.Test.YtnngmijajnldlaaGreatX11
import Derived.Test.YtnngmijajnldlaaGreatX21
set_option linter.unusedSimpArgs false
set_option linter.unusedVariables false
set_option linter.unusedSectionVars false
open Option renaming some→Ob,none→Oe
namespace Go.Ai.TabYtnngmijajnldlaaGreat
open Go Go.Ai Go.Ai.Sx Go.Proofs
attribute [local irreducible] zm
set_option maxRecDepth 100000
set_option maxHeartbeats 4000000
instance i10 {d y_1}:FI ktab 10 (zdu d y_1) [.val (zb zcp) d,.val zhV y_1] (λout=>[.row (zb (zh .i64)) out.1,.val zeK out.2.1,wI out.2.2]):=⟨λout ho=>by
 delta zdu at ho;refine fn λ_ _=>?_;refine gnr (zb (zh .i64)) ?_;refine gal λb1=>?_;refine gcl ho λy2 hy2 ho=>?_;refine gct ho (λhq3 ho=>?_) λhq3 ho=>?_
 . refine gnr (zb (zh .i64)) ?_;exact we ho
 . refine gal λb4=>?_;refine run 1 ?_;refine zdh (zb8 (R:=zL zQ) (a:=((d,y_1,()):zae)) 0 [7] (zz rfl) rfl rfl ⟨rfl,trivial⟩) ?_;refine gal λb5=>?_;refine run 1 ?_;refine zdh (zb8 (R:=zh .i64) (a:=zq d) 0 [8] (zz rfl) rfl rfl ⟨rfl,trivial⟩) ?_;refine gcl ho λy6 hy6 ho=>?_;intro v7;show zm ..;obtain ⟨x8,hx8,ho⟩:=bnd ho;refine gmk λv9=>?_;refine zdh (zbN (zh .i64)) ?_;refine gal λbc=>?_;refine zbv 0 2 (U27).sz rfl rfl Og (.n rfl) rfl rfl (.t rfl) (.t rfl) Om ?_;obtain ⟨td,ha,ho⟩:=bnd ho;refine glp ha [5,7,8,9,10,40] [3,4] [0,2,3,4] (λs g=>([(41,vI s.1)],[(.ptr bc 0,.box [.raw (gh g 0)]),(gh g 0,.row (zh .i64) s.2)])) (λb=>(.exit 0,λg=>([],[(.ptr bc 0,.box [.raw (gh g 0)]),(gh g 0,.row (zh .i64) b)]))) [v9] (λsb ge _ ho=>?_) λgi=>?_
   . refine gct ho (λhc ho=>?_) λhc ho=>?_
     . obtain ⟨xa,hw,ho⟩:=bnd ho;exact lv [gh ge 0] [0,1,2,3] ho
     . exact lv [gh ge 0] [0,1,2,3] ho
   . obtain ⟨ta,hd,ho⟩:=bnd ho;refine glp hd [5,7,8,9,10,48,49] [2,3] [0,1,2,3] (λs g=>([(50,vI s.1)],[(.ptr bc 0,.box [.raw (gh g 0)]),(gh g 0,.row (zh .i64) s.2)])) (λb=>(.exit 2,λg=>([],[(.ptr bc 0,.box [.raw (gh g 0)]),(gh g 0,.row (zh .i64) b)]))) [gh gi 0] (λsc gd _ ho=>?_) λgk=>?_
     . refine gct ho (λhe ho=>?_) λhe ho=>?_
       . obtain ⟨xb,hy,ho⟩:=bnd ho;refine gct ho (λhf ho=>?_) λhf ho=>?_
         . obtain ⟨xd,hz,ho⟩:=bnd ho;exact lv [gh gd 0] [0,1,2,3] ho
         . exact lv [gh gd 0] [0,1,2,3] ho
       . exact lv [gh gd 0] [0,1,2,3] ho
     . refine gnr (zb (zh .i64)) ?_;obtain ⟨te,hg,ho⟩:=bnd ho;refine glp hg [5,7,8,9,10,63] [1,2,3,4] [0,1,2,3,4] (λs g=>([(14,.raw (gh g 0)),(64,vI s.2)],[(gh g 0,.row (zb (zh .i64)) s.1)])) (λb=>(.exit 4,λg=>([(14,.raw (gh g 0))],[(gh g 0,.row (zb (zh .i64)) b)]))) [.nsz] (λsd gf _ ho=>?_) λgl=>?_
       . refine gct ho (λhh ho=>?_) λhh ho=>?_
         . obtain ⟨xe,hA,ho⟩:=bnd ho;refine gct ho (λhi ho=>?_) λhi ho=>?_
           . exact lv [gh gf 0] [0,1,2,3,4] ho
           . refine gnr (zh .i64) ?_;obtain ⟨tf,hj,ho⟩:=bnd ho;refine glp hj [5,7,8,9,10,14,63,64] [1,2,3,4,5] [0,1,2,3,4,5] (λs g=>([(16,.raw (gh g 0)),(17,vI s.2)],[(gh g 0,.row (zh .i64) s.1)])) (λb=>(.exit 6,λg=>([(16,.raw (gh g 0))],[(gh g 0,.row (zh .i64) b)]))) [.nsz] (λse gj _ ho=>?_) λgm=>?_
             . refine gct ho (λhk ho=>?_) λhk ho=>?_
               . obtain ⟨xf,hB,ho⟩:=bnd ho;refine gap λvb=>?_;obtain ⟨xg,hC,ho⟩:=bnd ho;exact lv [vb] [0,1,2,3,4,5] ho
               . exact lv [gh gj 0] [0,1,2,3,4,5] ho
             . refine run 3 ?_;refine zdh (zgd 0 [16,85] rfl rfl ⟨rfl,rfl,trivial⟩) ?_;obtain ⟨xh,hD,ho⟩:=bnd ho;refine gap λvc=>?_;exact lv [vc] [0,1,2,3,4] ho
         . exact lv [gh gf 0] [0,1,2,3,4] ho
       . obtain ⟨xi,hE,ho⟩:=bnd ho;refine gmk λvd=>?_;refine run 1 ?_;obtain ⟨xj,hF,ho⟩:=bnd ho;refine gmk λve=>?_;refine zdh (zbN zw) ?_;refine gal λba=>?_;refine zdh (zbN zw) ?_;refine gal λbb=>?_;refine zbv 2 5 (U49).sz rfl rfl Og (.n rfl) rfl rfl (.t rfl) (.t rfl) Om ?_;refine zbv 0 4 (U49).sz rfl rfl Og (.n rfl) rfl rfl (.t rfl) (.t rfl) Om ?_;refine gal λbe=>?_;refine run 3 ?_;refine zdh (zcS 9 8 (q:=0) [] rfl rfl rfl rfl Om trivial) ?_;refine zdh (zb8 (R:=zb (zh .i64)) (a:=ta) 8 [10] (zz rfl) rfl rfl ⟨rfl,trivial⟩) ?_;refine zi0 (.n rfl) rfl rfl .n (.c (.t rfl) (.c (.t rfl) (.c (.t rfl) (.c (.t rfl) (.c (.t rfl) (.c (.t rfl) .n)))))) ?_;refine zjL 0 (zxk).sz rfl Og (.n rfl) rfl rfl (.t rfl) (.t rfl) rfl rfl ?_;refine zdh (zlP 0 [20] (zpH (g:=34) (cs:=[.raw (.ptr ba 0),.val (zL (zh .i64)) (zq d),.val (zL (zL zQ)) ((d,y_1,()):zae),.raw (.ptr bb 0),.val (zL (zb (zh .i64))) ta]) rfl) rfl rfl ⟨rfl,trivial⟩) ?_;obtain ⟨tb,hl,ho⟩:=bnd ho;refine glp hl [5,8,9,14,18,19,20,94] [6,8] [0,2,7,4,5,6,8] (λs g=>([(95,vI s.1)],[(.ptr bb 0,.box [.raw (gh g 0)]),(.ptr ba 0,.box [.raw (gh g 1)]),(v7,.row (zh .i64) y6),(gh g 0,.row zw s.2.1),(gh g 1,.row zw s.2.2)])) (λb=>(.exit 8,λg=>([],[(.ptr bb 0,.box [.raw (gh g 0)]),(.ptr ba 0,.box [.raw (gh g 1)]),(gh g 0,.row zw b.1),(gh g 1,.row zw b.2)]))) [ve,vd] (λsa ga _ ho=>?_) λgc=>?_
         . refine gct ho (λhm ho=>?_) λhm ho=>?_
           . refine run 9 ?_;refine zaK [3] Z ?_;obtain ⟨xk,hG,ho⟩:=bnd ho;refine gct ho (λhn ho=>?_) λhn ho=>?_
             . refine run 1 ?_;refine zhr rfl zxk (.n rfl) rfl rfl (.t rfl) ?_;obtain ⟨ya,hp,ho⟩:=bnd ho;refine run 1 ?_;refine zhq (ps:=[]) (es:=[vI sa.1]) (cs:=[.raw (.ptr ba 0),.val (zL (zh .i64)) (zq d),.val (zL (zL zQ)) ((d,y_1,()):zae),.raw (.ptr bb 0),.val (zL (zb (zh .i64))) ta,.val (zfG 34 [.raw (.ptr ba 0),.val (zL (zh .i64)) (zq d),.val (zL (zL zQ)) ((d,y_1,()):zae),.raw (.ptr bb 0),.val (zL (zb (zh .i64))) ta]) ()]) [1,4,0,3] [2,5,6] (λ_ h=>by cases h) (zjC hp ba (gh ga 1) bb (gh ga 0)) rfl rfl Oa rfl (.n rfl) rfl rfl rfl (.t rfl) (.c (.t rfl) .n) ?_;intro gg;show zm ..;exact lv [gh gg 1,gh gg 0] [2,0,4,3,1,5,6] ho
             . exact lv [gh ga 0,gh ga 1] [0,1,2,3,4,5,6] ho
           . exact lv [gh ga 0,gh ga 1] [0,1,3,4,5,6] ho
         . refine run 2 ?_;refine zdh (zbN (zh .i64)) ?_;refine zdh (zbN (zh .i64)) ?_;refine xal (zv:=.agg [.nsz,.nsz]) (es:=[.raw .nsz,.raw .nsz]) Z λbd=>?_;obtain ⟨tc,hr,ho⟩:=bnd ho;refine glp hr [5,14,18,19,22,108] [7,8] [0,3,4,5,6,1,2,7,8] (λs g=>([(109,vI s.1)],[(.ptr bd 0,.box [.raw (gh g 1),.raw (gh g 0)]),(.ptr bb 0,.box [.raw (gh gc 0)]),(.ptr ba 0,.box [.raw (gh gc 1)]),(gh gc 0,.row zw tb.1),(gh gc 1,.row zw tb.2),(gh g 0,.row (zh .i64) s.2.1),(gh g 1,.row (zh .i64) s.2.2)])) (λb=>(.exit 10,λg=>([],[(.ptr bd 0,.box [.raw (gh g 0),.raw (gh g 1)]),(gh g 0,.row (zh .i64) b.1),(gh g 1,.row (zh .i64) b.2)]))) [.nsz,.nsz] (λsf gb _ ho=>?_) λgn=>?_
           . refine gct ho (λhs ho=>?_) λhs ho=>?_
             . obtain ⟨xl,hH,ho⟩:=bnd ho;refine gct ho (λht ho=>?_) λht ho=>?_
               . obtain ⟨xm,hI,ho⟩:=bnd ho;refine gap λva=>?_;refine run 1 ?_;refine zbv 1 0 (U27).sz rfl rfl Og (.n rfl) rfl rfl (.t rfl) (.t rfl) Om ?_;obtain ⟨xn,hJ,ho⟩:=bnd ho;refine gct ho (λhu ho=>?_) λhu ho=>?_
                 . obtain ⟨xo,hK,ho⟩:=bnd ho;refine gap λvf=>?_;refine run 1 ?_;refine zbv 2 0 (U27).sz rfl rfl Og (.n rfl) rfl rfl (.t rfl) (.t rfl) Om ?_;exact lv [vf,va] [2,3,4,5,6,0,1,7,8] ho
                 . exact lv [gh gb 0,va] [1,2,3,4,5,6,0,7,8] ho
               . obtain ⟨xp,hL,ho⟩:=bnd ho;refine gct ho (λhv ho=>?_) λhv ho=>?_
                 . obtain ⟨xq,hM,ho⟩:=bnd ho;refine gap λvg=>?_;refine run 1 ?_;refine zbv 1 0 (U27).sz rfl rfl Og (.n rfl) rfl rfl (.t rfl) (.t rfl) Om ?_;exact lv [vg,gh gb 1] [1,2,3,4,5,0,6,7,8] ho
                 . exact lv [gh gb 0,gh gb 1] [0,1,2,3,4,5,6,7,8] ho
             . exact lv [gh gb 1,gh gb 0] [0,6,5,7,8] ho
           . refine run 1 ?_;refine zaK [1] Z ?_;refine run 1 ?_;refine zdh (zcS 1 0 (q:=0) [] rfl rfl rfl rfl Om trivial) ?_;refine zdh (zcS 1 0 (q:=1) [] rfl rfl rfl rfl Om trivial) ?_;refine glb (tc.1,tc.2,()) 0 ?_;exact we ho⟩
instance i11:FI ktab 11 zfI [] (λout=>[.val (zb zcp) out.1,.val zhV out.2.1,.val zbT out.2.2]):=⟨λout ho=>by
 delta zfI at ho;refine fn λ_ _=>?_;refine run 2 ?_;refine zeq (.n rfl) rfl rfl (.nil (R:=zcp)) ?_;exact we ho⟩
instance i62 {a cars_1}:FI ktab 62 (zd7 a cars_1) [.val (zL zQ) a,.val (zb (zb (zh .i64))) cars_1] (λout=>[wB out]):=⟨λout ho=>by
 delta zd7 at ho;refine fn λ_ _=>?_;obtain ⟨x1,hx1,ho⟩:=bnd ho;refine gmk λv2=>?_;obtain ⟨ta,ha,ho⟩:=bnd ho;refine gl2 ha ho [0,1,17,18] [] [0] (λs g=>([(5,.raw v2),(6,vI s.1),(19,vI s.2.1)],[(v2,.row zw s.2.2)])) (λb=>(.exit 0,λg=>([(6,vI b.1)],[]))) (λb=>(.ret,λg=>([(4,vB b)],[]))) [] (λsa gd _ ho=>?_) (λba ho ga=>?_) λbb ho ga=>?_
 . refine gct ho (λhc ho=>?_) λhc ho=>?_
   . obtain ⟨xa,hu,ho⟩:=bnd ho;refine wbr ho (λhd ho=>?_) λhd ho=>?_
     . refine gk ?_;exact we ho
     . refine wbr ho (λhe ho=>?_) λhe ho=>?_
       . obtain ⟨xb,hv,xd,hw,xe,hy,ho⟩:=zok ho;refine gct ho (λhf ho=>?_) λhf ho=>?_
         . exact we ho
         . obtain ⟨tb,hg,ho⟩:=bnd ho;refine gl2 hg ho [0,1,5,8,17,18,19,28,29,30,31,32,33,34,35,36,37,38,39,40,41,42,44,45] [] [0] (λs g=>([(6,vI s.1),(46,vI s.2.1)],[(v2,.row zw s.2.2)])) (λb=>(.exit 2,λg=>([(6,vI b.1)],[(v2,.row zw b.2)]))) (λb=>(.ret,λg=>([(4,vB b.1)],[]))) [] (λsb ge _ ho=>?_) (λbc ho gb=>?_) λbd ho gb=>?_
           . refine gct ho (λhh ho=>?_) λhh ho=>?_
             . obtain ⟨xf,hz,ho⟩:=bnd ho;refine gcl ho λya hA ho=>?_;refine wbr ho (λhi ho=>?_) λhi ho=>?_
               . refine gk ?_;exact we ho
               . obtain ⟨xg,hB,ho⟩:=bnd ho;refine wbr ho (λhj ho=>?_) λhj ho=>?_
                 . refine gk ?_;exact we ho
                 . refine wbr ho (λhk ho=>?_) λhk ho=>?_
                   . obtain ⟨xh,hC,ho⟩:=bnd ho;refine gcl ho λyb hD ho=>?_;refine gct ho (λhl ho=>?_) λhl ho=>?_
                     . exact we ho
                     . obtain ⟨xi,hE,ho⟩:=bnd ho;exact lv [] [0] ho
                   . refine gk ?_;refine run 5 ?_;obtain ⟨xj,hF,ho⟩:=bnd ho;exact lv [] [0] ho
             . exact lv [] [0] ho
           . exact lv [] [0] ho
           . cases ho; exact id (lf [] [])
       . refine gk ?_;obtain ⟨tc,hm,ho⟩:=bnd ho;refine gl2 hm ho [0,1,5,8,17,18,19,28,29,30,42,44,45] [] [0] (λs g=>([(6,vI s.1),(46,vI s.2.1)],[(v2,.row zw s.2.2)])) (λb=>(.exit 2,λg=>([(6,vI b.1)],[(v2,.row zw b.2)]))) (λb=>(.ret,λg=>([(4,vB b.1)],[]))) [] (λsc gf _ ho=>?_) (λbe ho gc=>?_) λbf ho gc=>?_
         . refine gct ho (λhn ho=>?_) λhn ho=>?_
           . obtain ⟨xk,hG,ho⟩:=bnd ho;refine gcl ho λyc hH ho=>?_;refine wbr ho (λhp ho=>?_) λhp ho=>?_
             . refine gk ?_;exact we ho
             . obtain ⟨xl,hI,ho⟩:=bnd ho;refine wbr ho (λhr ho=>?_) λhr ho=>?_
               . refine gk ?_;exact we ho
               . refine wbr ho (λhs ho=>?_) λhs ho=>?_
                 . obtain ⟨xm,hJ,ho⟩:=bnd ho;refine gcl ho λyd hK ho=>?_;refine gct ho (λht ho=>?_) λht ho=>?_
                   . exact we ho
                   . obtain ⟨xn,hL,ho⟩:=bnd ho;exact lv [] [0] ho
                 . refine gk ?_;refine run 5 ?_;obtain ⟨xo,hM,ho⟩:=bnd ho;exact lv [] [0] ho
           . exact lv [] [0] ho
         . exact lv [] [0] ho
         . cases ho; exact id (lf [] [])
   . exact lv [] [] ho
 . exact we ho
 . exact rv ho⟩
instance i63 {x_0}:FI ktab 63 (zg9 x_0) [vI x_0] (λout=>[wB out]):=fw
instance i35 {a d b r_3}:FI ktab 35 (zfl a d b r_3) [.val (zb zcp) a,.val zhV d,.val (zb (zb (zh .i64))) b,.val zbT r_3] (λout=>[.val (ze9 z8) out.1,wB out.2]):=⟨λout ho=>by
 delta zfl at ho;refine fn λ_ _=>?_;refine run 4 ?_;refine zau rfl (.n rfl) rfl (e:=.val (ze9 z8) Oe) (λz fr h s=>⟨_,rfl,zcv⟩) ?_;refine gcl ho λy1 hy1 ho=>?_;refine gct ho (λhq2 ho=>?_) λhq2 ho=>?_
 . refine run 2 ?_;refine zau rfl (.n rfl) rfl (e:=.val (ze9 z8) Oe) (λz fr h s=>⟨_,rfl,zcv⟩) ?_;exact we ho
 . obtain ⟨c6,hc6,ho⟩:=bnd ho;refine run 15 ?_;refine gcx c6 [10] [] (λt=>(.normal,λ_=>([(45,vB t)],[]))) ?_ λ_=>?_
   . have ho:=hc6;refine gcl ho λy7 hy7 ho=>?_;refine wbr ho (λhb8 ho=>?_) λhb8 ho=>?_
     . exact we ho
     . obtain ⟨y9,hy9,ho⟩:=bnd ho;refine run 15 ?_;refine zfF (i57.ok _ hy9) (.v zeX .n) rfl (.g rfl rfl (gf0 hb8)) rfl rfl rfl .f (.c (.o (.t rfl)) (.c (.o (.fv (zge (λx y hf=>i63.ok _ hf) rfl))) .n)) ?_;exact we ho
   . refine gct ho (λha ho=>?_) λha ho=>?_
     . refine run 2 ?_;refine zau rfl (.n rfl) rfl (e:=.val (ze9 z8) Oe) (λz fr h s=>⟨_,rfl,zcv⟩) ?_;exact we ho
     . refine run 7 ?_;cases ho;refine zm2 (zkC (n:=8) rfl) ?_;exact zdR (zdd (.inr rfl) (.v rfl (.v rfl .n)) Oa)⟩
instance i37 {c_0}:FI ktab 37 (zdn c_0) [.val (zL z8) c_0] (λout=>[.row zy out]):=⟨λout ho=>by
 delta zdn at ho;refine fn λ_ _=>?_;refine gnr zy ?_;refine gnr zy ?_;obtain ⟨ta,ha,ho⟩:=bnd ho;refine glp ha [11,12] [] [0] (λs g=>([(3,.raw (gh g 0)),(13,vI s.2)],[(gh g 0,.row zy s.1)])) (λb=>(.exit 0,λg=>([(3,.raw (gh g 0))],[(gh g 0,.row zy b)]))) [.nsz] (λsa ga _ ho=>?_) λgf=>?_
 . refine gct ho (λhc ho=>?_) λhc ho=>?_
   . obtain ⟨xa,hh,tb,hd,ho⟩:=zff ho;refine glp hd [4,5,11,12,13,19] [] [0] (λs g=>([(3,.raw (gh g 0)),(20,vI s.2)],[(gh g 0,.row zy s.1)])) (λb=>(.exit 2,λg=>([(3,.raw (gh g 0))],[(gh g 0,.row zy b)]))) [gh ga 0] (λsb gb _ ho=>?_) λgc=>?_
     . refine gct ho (λhe ho=>?_) λhe ho=>?_
       . obtain ⟨tc,hf,ho⟩:=bnd ho;refine glp hf [4,5,6,11,12,13,19,20] [] [0] (λs g=>([(3,.raw (gh g 0)),(7,vI s.2)],[(gh g 0,.row zy s.1)])) (λb=>(.exit 4,λg=>([(3,.raw (gh g 0))],[(gh g 0,.row zy b)]))) [gh gb 0] (λsc gd _ ho=>?_) λge=>?_
         . refine gct ho (λhg ho=>?_) λhg ho=>?_
           . obtain ⟨xb,hi,ho⟩:=bnd ho;refine gap λva=>?_;exact lv [va] [0] ho
           . exact lv [gh gd 0] [0] ho
         . exact lv [gh ge 0] [0] ho
       . exact lv [gh gb 0] [0] ho
     . exact lv [gh gc 0] [0] ho
   . exact lv [gh ga 0] [0] ho
 . exact we ho⟩
instance i64 {a p_1}:FI ktab 64 (zN a p_1) [.val zy a,.val (zL (zL z8)) p_1] (λout=>[.val (zh .u64) out]):=⟨λout ho=>by
 delta zN at ho;refine fn λ_ _=>?_;obtain ⟨x3,hx3,x4,hx4,ta,ha,ho⟩:=zok ho;refine glp ha [20,21] [] [] (λs g=>([(4,.val (zh .u64) s.1),(22,vI s.2)],[])) (λb=>(.exit 0,λg=>([(4,.val (zh .u64) b)],[]))) [] (λs8 g9 _ ho=>?_) λga=>?_
 . exact we ho
 . exact we ho⟩
instance i117 {a f_1}:FI ktab 117 (zav a f_1) [.val (zb zy) a,.val (rFn ktab z4 Bool (λx=>[.val zy x]) (λy=>[.val zw y])) f_1] (λout=>[wI out]):=⟨λout ho=>by
 delta zav at ho;refine fn λ_ _=>?_;obtain ⟨ta,ha,ho⟩:=bnd ho;refine gl2 ha ho [0,1,7] [] [] (λs g=>([(8,vI s)],[])) (λb=>(.exit 0,λg=>([],[]))) (λb=>(.ret,λg=>([(4,vI b)],[]))) [] (λs5 g6 _ ho=>?_) (λba ho ga=>?_) λbb ho ga=>?_
 . refine gct ho (λhq7 ho=>?_) λhq7 ho=>?_
   . obtain ⟨x8,hx8,y9,hy9,ho⟩:=zff ho;refine gcv hy9 ?_;exact we ho
   . exact lv [] [] ho
 . exact we ho
 . exact rv ho⟩
instance i97 {a f_1}:FI ktab 97 (zak a f_1) [.val (zb zy) a,.val (rFn ktab z4 Bool (λx=>[.val zy x]) (λy=>[.val zw y])) f_1] (λout=>[wB out]):=fw
instance i94 {a p_1}:FI ktab 94 (zcs a p_1) [.val (zL z8) a,.val zy p_1] (λout=>[.val zcp out]):=fw
instance i95 {a p_1}:FI ktab 95 (zcT a p_1) [.val (zL z8) a,.val zy p_1] (λout=>[.val zcp out]):=fw
instance i99 {a p_1}:FI ktab 99 (zeL a p_1) [.val (zL z8) a,.val zy p_1] (λout=>[wI out]):=fw
instance i98 {a p_1}:FI ktab 98 (zd8 a p_1) [.val zy a,.val (zL (zL z8)) p_1] (λout=>[wB out]):=fw
instance i71 {a d_1}:FI ktab 71 (zdH a d_1) [.val (zL z8) a,.val zcJ d_1] (λout=>[wB out]):=⟨λout ho=>by
 delta zdH at ho;refine fn λ_ _=>?_;refine run 10 ?_;refine zeB (X:=z4) (Y:=Bool) (λx=>[.val zy x]) (λy=>[.val zw y]) (f:=(λx=>zd8 x a)) (λx y hf=>i98.ok _ hf) rfl (.n rfl) rfl rfl .n (.c (.t rfl) .n) ?_;exact we ho⟩
instance i100 {a p_1}:FI ktab 100 (zcN a p_1) [.val zy a,.val (zL (zL z8)) p_1] (λout=>[wB out]):=⟨λout ho=>by
 delta zcN at ho;refine fn λ_ _=>?_;obtain ⟨ca,ha,ho⟩:=bnd ho;refine run 6 ?_;refine gcx ca [] [] (λt=>(.normal,λ_=>([(3,vB t)],[]))) ?_ λ_=>?_
 . exact we ha
 . exact rv ho⟩
instance i72 {a d_1}:FI ktab 72 (zdo a d_1) [.val (zL z8) a,.val zcJ d_1] (λout=>[wB out]):=⟨λout ho=>by
 delta zdo at ho;refine fn λ_ _=>?_;refine run 10 ?_;refine zeB (X:=z4) (Y:=Bool) (λx=>[.val zy x]) (λy=>[.val zw y]) (f:=(λx=>zcN x a)) (λx y hf=>i100.ok _ hf) rfl (.n rfl) rfl rfl .n (.c (.t rfl) .n) ?_;exact we ho⟩
instance i101 {a d_1}:FI ktab 101 (zda a d_1) [.val (zL z8) a,.val zcJ d_1] (λout=>[wI out.1,wI out.2]):=⟨λout ho=>by
 delta zda at ho;refine fn λ_ _=>?_;obtain ⟨x7,hx7,ho⟩:=bnd ho;refine gcl ho λy8 hy8 ho=>?_;obtain ⟨x9,hx9,ho⟩:=bnd ho;refine gcl ho λya ha ho=>?_;refine gal λba=>?_;refine gal λbb=>?_;refine gfz 1 zcp y8 1 [6] ?_;refine gfz 1 zcp ya 0 [7] ?_;exact we ho⟩
instance i73 {a d_1}:FI ktab 73 (zcU a d_1) [.val (zL z8) a,.val zcJ d_1] (λout=>[wB out]):=⟨λout ho=>by
 delta zcU at ho;refine fn λ_ _=>?_;refine gct ho (λhq1 ho=>?_) λhq1 ho=>?_
 . exact we ho
 . refine gcl ho λy2 hy2 ho=>?_;obtain ⟨c4,hc4,ho⟩:=bnd ho;refine run 7 ?_;refine gcx c4 [] [] (λt=>(.normal,λ_=>([(4,vB t)],[]))) ?_ λ_=>?_
   . exact we hc4
   . exact rv ho⟩
instance i74 {a d_1}:FI ktab 74 (zdI a d_1) [.val (zL z8) a,.val zcJ d_1] (λout=>[wB out]):=⟨λout ho=>by
 delta zdI at ho;refine fn λ_ _=>?_;obtain ⟨c4,hc4,ho⟩:=bnd ho;refine run 7 ?_;refine gcx c4 [0,3] [] (λt=>(.normal,λ_=>([(15,vB t)],[]))) ?_ λ_=>?_
 . exact we hc4
 . exact we ho⟩
instance i66 {a d_1}:FI ktab 66 (zfa a d_1) [.val (zL z8) a,.val zcJ d_1] (λout=>[wI out]):=fw
instance i75 {a d_1}:FI ktab 75 (zfb a d_1) [.val (zL z8) a,.val zcJ d_1] (λout=>[wB out]):=fw
instance i76 {a d_1}:FI ktab 76 (zd1 a d_1) [.val (zL z8) a,.val zcJ d_1] (λout=>[wB out]):=⟨λout ho=>by
 delta zd1 at ho;refine fn λ_ _=>?_;obtain ⟨ta,ha,ho⟩:=bnd ho;refine glp ha [0,20,21] [] [] (λs g=>([(5,vI s.1),(22,vI s.2)],[])) (λb=>(.exit 0,λg=>([(5,vI b)],[]))) [] (λs5 g6 _ ho=>?_) λga=>?_
 . refine gct ho (λhq7 ho=>?_) λhq7 ho=>?_
   . obtain ⟨x8,hx8,ho⟩:=bnd ho;refine gal λb9=>?_;refine gfz 1 zy x8 0 [7] ?_;exact we ho
   . exact lv [] [] ho
 . exact we ho⟩
instance i38 {a d_1}:FI ktab 38 (zdp a d_1) [.val (zL z8) a,.val zcJ d_1] (λout=>[.row (zh .i64) out]):=⟨λout ho=>by
 delta zdp at ho;refine fn λ_ _=>?_;refine gnr (zh .i64) ?_;refine run 4 ?_;refine zeB (X:=Duty) (Y:=Bool) (λx=>[.val zcJ x]) (λy=>[.val zw y]) (f:=(λx=>zdH a x)) (λx y hf=>i71.ok _ hf) rfl (.n rfl) rfl rfl (.c (.t rfl) .n) .n ?_;refine run 1 ?_;refine zeB (X:=Duty) (Y:=Bool) (λx=>[.val zcJ x]) (λy=>[.val zw y]) (f:=(λx=>zdo a x)) (λx y hf=>i72.ok _ hf) rfl (.n rfl) rfl rfl (.c (.t rfl) .n) .n ?_;refine run 1 ?_;refine zeB (X:=Duty) (Y:=Bool) (λx=>[.val zcJ x]) (λy=>[.val zw y]) (f:=(λx=>zcU a x)) (λx y hf=>i73.ok _ hf) rfl (.n rfl) rfl rfl (.c (.t rfl) .n) .n ?_;refine run 1 ?_;refine zeB (X:=Duty) (Y:=Bool) (λx=>[.val zcJ x]) (λy=>[.val zw y]) (f:=(λx=>zdI a x)) (λx y hf=>i74.ok _ hf) rfl (.n rfl) rfl rfl (.c (.t rfl) .n) .n ?_;refine run 1 ?_;refine zeB (X:=Duty) (Y:=Bool) (λx=>[.val zcJ x]) (λy=>[.val zw y]) (f:=(λx=>zfb a x)) (λx y hf=>i75.ok _ hf) rfl (.n rfl) rfl rfl (.c (.t rfl) .n) .n ?_;refine run 1 ?_;refine zeB (X:=Duty) (Y:=Bool) (λx=>[.val zcJ x]) (λy=>[.val zw y]) (f:=(λx=>zd1 a x)) (λx y hf=>i76.ok _ hf) rfl (.n rfl) rfl rfl (.c (.t rfl) .n) .n ?_;refine zmD (R:=rFn ktab Duty Bool (λx=>[.val zcJ x]) (λy=>[.val zw y])) (zc:=[.nfz,.nfz,.nfz,.nfz,.nfz,.nfz]) ia' Z Om (.n rfl) rfl rfl (.c (.t rfl) (.c (.t rfl) (.c (.t rfl) (.c (.t rfl) (.c (.t rfl) (.c (.t rfl) .n)))))) Om ?_
 refine gal λb1=>?_;refine zgf 0 ia' rfl Om Oa (.n rfl) rfl rfl (.t rfl) (.t rfl) Om ?_;refine zdh (zi6 (R:=rFn ktab Duty Bool (λx=>[.val zcJ x]) (λy=>[.val zw y])) 0 [5] Oa Oa rfl rfl ⟨rfl,trivial⟩) ?_;refine gnr (zh .i64) ?_;obtain ⟨ta,ha,ho⟩:=bnd ho;refine glp ha [3,22] [] [0] (λs g=>([(6,.raw (gh g 0)),(23,vI s.2)],[(gh g 0,.row (zh .i64) s.1)])) (λb=>(.exit 0,λg=>([(6,.raw (gh g 0))],[(gh g 0,.row (zh .i64) b)]))) [.nsz] (λs8 g9 _ ho=>?_) λga=>?_
 . refine gct ho (λhc ho=>?_) λhc ho=>?_
   . obtain ⟨xa,hg,ya,hd,ho⟩:=zff ho;refine gcv hd ?_;refine gct ho (λhe ho=>?_) λhe ho=>?_
     . obtain ⟨xb,hh,ho⟩:=bnd ho;refine gap λva=>?_;exact lv [va] [0] ho
     . exact lv [gh g9 0] [0] ho
   . exact lv [gh g9 0] [0] ho
 . exact we ho⟩
theorem zej {f c e d out} (ho:zcx f c e d=Ob out) (b:Nat) (a:zd):zfL ktab 65 [.val (zh .u64) f,.val (zb zy) c,.val (zL (zL z8)) e,.raw (.ptr b 0)] [(.ptr b 0,.box [.raw a]),(a,.row zg d)] [] (λγ=>[(.ptr b 0,.box [.raw (gh γ 0)]),(gh γ 0,.row zg out)]):=by
 refine zco (F:=Tryz.f65) Om Om Om (λC=>?_);delta zcx at ho;refine gal λb1=>?_;refine gfz 1 zcJ ((c,()):Duty) 0 [6] ?_;refine gcl ho λy2 hy2 ho=>?_;intro v3;show zm ..;refine gct ho (λhq4 ho=>?_) λhq4 ho=>?_
 . refine zaK [0] Z ?_;refine gcl ho λy8 hy8 ho=>?_;obtain ⟨x9,hx9,ho⟩:=bnd ho;refine gap λva=>?_;refine zbv 2 0 (zCv).sz rfl rfl Og (.n rfl) rfl rfl (.t rfl) (.t rfl) Om ?_;cases ho; exact zdD (zP [2,0] [va] (.inl rfl) .n rfl Oa)
 . cases ho; exact zdL (zP [1,2] [a] (.inl rfl) .n rfl Oa)
end Go.Ai.TabYtnngmijajnldlaaGreat