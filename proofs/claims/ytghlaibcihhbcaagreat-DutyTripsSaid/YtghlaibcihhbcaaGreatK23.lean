/- Written by program: walks through functions. -/
import Derived.Test.YtghlaibcihhbcaaGreatK11
import Derived.Test.YtghlaibcihhbcaaGreatK18
set_option linter.unusedSimpArgs false
set_option linter.unusedVariables false
set_option linter.unusedSectionVars false
namespace Go.Ai.TabYtghlaibcihhbcaaGreat
open Go Go.Ai Go.Ai.Sx Go.Proofs
attribute [local irreducible] zm
set_option maxRecDepth 100000
set_option maxHeartbeats 4000000
instance i14 {tasks_0 y_1}:FI ktab 14 (zhK tasks_0 y_1) [.val (zd zby) tasks_0,.val zih y_1] (λout=>[.row (zd (zh .i64)) out.1,.val zfm out.2.1,wI out.2.2]):=⟨λout ho=>by
 delta zhK at ho;refine fn λ_ _=>?_;refine gnr (zd (zh .i64)) ?_;refine gal λb1=>?_;refine gcl ho λy2 hy2 ho=>?_;refine gct ho (λhq3 ho=>?_) λhq3 ho=>?_
 . refine gnr (zd (zh .i64)) ?_;exact we ho
 . refine gal λb4=>?_;refine run 1 ?_;refine zeM (zdo (R:=(zS zJ)) (a:=((tasks_0,y_1,()):zaz)) 0 [7] (zB rfl) rfl rfl ⟨rfl,trivial⟩) ?_;refine gal λb5=>?_;refine run 1 ?_;refine zeM (zdo (R:=(zh .i64)) (a:=(zl tasks_0)) 0 [8] (zB rfl) rfl rfl ⟨rfl,trivial⟩) ?_;refine gcl ho λy6 hy6 ho=>?_;intro v7;show zm ..;obtain ⟨x8,hx8,ho⟩:=bnd ho;refine gmk λv9=>?_;refine zeM (zbS (zh .i64)) ?_;refine gal λbc=>?_;refine zbt 0 2 (U27).sz rfl rfl (by exact Nat.le_of_ble_eq_true rfl) (.n rfl) rfl rfl (.t rfl) (.t rfl) (by rfl) ?_;obtain ⟨td,ha,ho⟩:=bnd ho;refine glp ha [5,7,8,9,10,40] [3,4] [0,2,3,4] (λs g=>([(41,vI s.1)],[(.ptr bc 0,.box [.raw (gh g 0)]),((gh g 0),.row (zh .i64) s.2)])) (λb=>(.exit 0,λg=>([],[(.ptr bc 0,.box [.raw (gh g 0)]),((gh g 0),.row (zh .i64) b)]))) [v9] (λsb ge _ ho=>?_) λgi=>?_
   . refine gct ho (λhc ho=>?_) λhc ho=>?_
     . obtain ⟨xa,hw,ho⟩:=bnd ho;exact lv [(gh ge 0)] [0,1,2,3] ho
     . exact lv [(gh ge 0)] [0,1,2,3] ho
   . obtain ⟨ta,hd,ho⟩:=bnd ho;refine glp hd [5,7,8,9,10,48,49] [2,3] [0,1,2,3] (λs g=>([(50,vI s.1)],[(.ptr bc 0,.box [.raw (gh g 0)]),((gh g 0),.row (zh .i64) s.2)])) (λb=>(.exit 2,λg=>([],[(.ptr bc 0,.box [.raw (gh g 0)]),((gh g 0),.row (zh .i64) b)]))) [(gh gi 0)] (λsc gd _ ho=>?_) λgk=>?_
     . refine gct ho (λhe ho=>?_) λhe ho=>?_
       . obtain ⟨xb,hy,ho⟩:=bnd ho;refine gct ho (λhf ho=>?_) λhf ho=>?_
         . obtain ⟨xd,hz,ho⟩:=bnd ho;exact lv [(gh gd 0)] [0,1,2,3] ho
         . exact lv [(gh gd 0)] [0,1,2,3] ho
       . exact lv [(gh gd 0)] [0,1,2,3] ho
     . refine gnr (zd (zh .i64)) ?_;obtain ⟨te,hg,ho⟩:=bnd ho;refine glp hg [5,7,8,9,10,63] [1,2,3,4] [0,1,2,3,4] (λs g=>([(14,.raw (gh g 0)),(64,vI s.2)],[((gh g 0),.row (zd (zh .i64)) s.1)])) (λb=>(.exit 4,λg=>([(14,.raw (gh g 0))],[((gh g 0),.row (zd (zh .i64)) b)]))) [.nilslice] (λsd gf _ ho=>?_) λgl=>?_
       . refine gct ho (λhh ho=>?_) λhh ho=>?_
         . obtain ⟨xe,hA,ho⟩:=bnd ho;refine gct ho (λhi ho=>?_) λhi ho=>?_
           . exact lv [(gh gf 0)] [0,1,2,3,4] ho
           . refine gnr (zh .i64) ?_;obtain ⟨tf,hj,ho⟩:=bnd ho;refine glp hj [5,7,8,9,10,14,63,64] [1,2,3,4,5] [0,1,2,3,4,5] (λs g=>([(16,.raw (gh g 0)),(17,vI s.2)],[((gh g 0),.row (zh .i64) s.1)])) (λb=>(.exit 6,λg=>([(16,.raw (gh g 0))],[((gh g 0),.row (zh .i64) b)]))) [.nilslice] (λse gj _ ho=>?_) λgm=>?_
             . refine gct ho (λhk ho=>?_) λhk ho=>?_
               . obtain ⟨xf,hB,ho⟩:=bnd ho;refine gap λvb=>?_;obtain ⟨xg,hC,ho⟩:=bnd ho;exact lv [vb] [0,1,2,3,4,5] ho
               . exact lv [(gh gj 0)] [0,1,2,3,4,5] ho
             . refine run 3 ?_;refine zeM (zid 0 [16,85] rfl rfl ⟨rfl,rfl,trivial⟩) ?_;obtain ⟨xh,hD,ho⟩:=bnd ho;refine gap λvc=>?_;exact lv [vc] [0,1,2,3,4] ho
         . exact lv [(gh gf 0)] [0,1,2,3,4] ho
       . obtain ⟨xi,hE,ho⟩:=bnd ho;refine gmk λvd=>?_;refine run 1 ?_;obtain ⟨xj,hF,ho⟩:=bnd ho;refine gmk λve=>?_;refine zeM (zbS zu) ?_;refine gal λba=>?_;refine zeM (zbS zu) ?_;refine gal λbb=>?_;refine zbt 2 5 (U55).sz rfl rfl (by exact Nat.le_of_ble_eq_true rfl) (.n rfl) rfl rfl (.t rfl) (.t rfl) (by rfl) ?_;refine zbt 0 4 (U55).sz rfl rfl (by exact Nat.le_of_ble_eq_true rfl) (.n rfl) rfl rfl (.t rfl) (.t rfl) (by rfl) ?_;refine gal λbe=>?_;refine run 3 ?_;refine zeM (zdV 9 8 (q:=0) [] rfl rfl rfl rfl (by rfl) trivial) ?_;refine zeM (zdo (R:=(zd (zh .i64))) (a:=ta) 8 [10] (zB rfl) rfl rfl ⟨rfl,trivial⟩) ?_;refine zj8 (.n rfl) rfl rfl .n (.c (.t rfl) (.c (.t rfl) (.c (.t rfl) (.c (.t rfl) (.c (.t rfl) (.c (.t rfl) .n)))))) ?_;refine zjp 0 (zvn).sz rfl (by exact Nat.le_of_ble_eq_true rfl) (.n rfl) rfl rfl (.t rfl) (.t rfl) rfl rfl ?_;refine zeM (zlc 0 [20] (zoR (g:=43) (cs:=[.raw (.ptr ba 0),.val (zS (zh .i64)) (zl tasks_0),.val (zS (zS zJ)) ((tasks_0,y_1,()):zaz),.raw (.ptr bb 0),.val (zS (zd (zh .i64))) ta]) rfl) rfl rfl ⟨rfl,trivial⟩) ?_;obtain ⟨tb,hl,ho⟩:=bnd ho;refine glp hl [5,8,9,14,18,19,20,94] [6,8] [0,2,7,4,5,6,8] (λs g=>([(95,vI s.1)],[(.ptr bb 0,.box [.raw (gh g 0)]),(.ptr ba 0,.box [.raw (gh g 1)]),(v7,.row (zh .i64) y6),((gh g 0),.row zu s.2.1),((gh g 1),.row zu s.2.2)])) (λb=>(.exit 8,λg=>([],[(.ptr bb 0,.box [.raw (gh g 0)]),(.ptr ba 0,.box [.raw (gh g 1)]),((gh g 0),.row zu b.1),((gh g 1),.row zu b.2)]))) [ve,vd] (λsa ga _ ho=>?_) λgc=>?_
         . refine gct ho (λhm ho=>?_) λhm ho=>?_
           . refine run 9 ?_;refine zao [3] (by kernel_rfl) ?_;obtain ⟨xk,hG,ho⟩:=bnd ho;refine gct ho (λhn ho=>?_) λhn ho=>?_
             . refine run 1 ?_;refine zhj rfl zvn (.n rfl) rfl rfl (.t rfl) ?_;obtain ⟨ya,hp,ho⟩:=bnd ho;refine run 1 ?_;refine zhi (ps:=[]) (es:=[vI sa.1]) (cs:=[.raw (.ptr ba 0),.val (zS (zh .i64)) (zl tasks_0),.val (zS (zS zJ)) ((tasks_0,y_1,()):zaz),.raw (.ptr bb 0),.val (zS (zd (zh .i64))) ta,.val (zfy 43 [.raw (.ptr ba 0),.val (zS (zh .i64)) (zl tasks_0),.val (zS (zS zJ)) ((tasks_0,y_1,()):zaz),.raw (.ptr bb 0),.val (zS (zd (zh .i64))) ta]) ()]) [1,4,0,3] [2,5,6] (λ_ h=>by cases h) (zjg hp ba (gh ga 1) bb (gh ga 0)) rfl rfl (by decide) rfl (.n rfl) rfl rfl rfl (.t rfl) (.c (.t rfl) .n) ?_;intro gg;show zm ..;exact lv [(gh gg 1),(gh gg 0)] [2,0,4,3,1,5,6] ho
             . exact lv [(gh ga 0),(gh ga 1)] [0,1,2,3,4,5,6] ho
           . exact lv [(gh ga 0),(gh ga 1)] [0,1,3,4,5,6] ho
         . refine run 2 ?_;refine zeM (zbS (zh .i64)) ?_;refine zeM (zbS (zh .i64)) ?_;refine xal (zv:=.agg [.nilslice,.nilslice]) (es:=[.raw .nilslice,.raw .nilslice]) (by kernel_rfl) λbd=>?_;obtain ⟨tc,hr,ho⟩:=bnd ho;refine glp hr [5,14,18,19,22,108] [7,8] [0,3,4,5,6,1,2,7,8] (λs g=>([(109,vI s.1)],[(.ptr bd 0,.box [.raw (gh g 1),.raw (gh g 0)]),(.ptr bb 0,.box [.raw (gh gc 0)]),(.ptr ba 0,.box [.raw (gh gc 1)]),((gh gc 0),.row zu tb.1),((gh gc 1),.row zu tb.2),((gh g 0),.row (zh .i64) s.2.1),((gh g 1),.row (zh .i64) s.2.2)])) (λb=>(.exit 10,λg=>([],[(.ptr bd 0,.box [.raw (gh g 0),.raw (gh g 1)]),((gh g 0),.row (zh .i64) b.1),((gh g 1),.row (zh .i64) b.2)]))) [.nilslice,.nilslice] (λsf gb _ ho=>?_) λgn=>?_
           . refine gct ho (λhs ho=>?_) λhs ho=>?_
             . obtain ⟨xl,hH,ho⟩:=bnd ho;refine gct ho (λht ho=>?_) λht ho=>?_
               . obtain ⟨xm,hI,ho⟩:=bnd ho;refine gap λva=>?_;refine run 1 ?_;refine zbt 1 0 (U27).sz rfl rfl (by exact Nat.le_of_ble_eq_true rfl) (.n rfl) rfl rfl (.t rfl) (.t rfl) (by rfl) ?_;obtain ⟨xn,hJ,ho⟩:=bnd ho;refine gct ho (λhu ho=>?_) λhu ho=>?_
                 . obtain ⟨xo,hK,ho⟩:=bnd ho;refine gap λvf=>?_;refine run 1 ?_;refine zbt 2 0 (U27).sz rfl rfl (by exact Nat.le_of_ble_eq_true rfl) (.n rfl) rfl rfl (.t rfl) (.t rfl) (by rfl) ?_;exact lv [vf,va] [2,3,4,5,6,0,1,7,8] ho
                 . exact lv [(gh gb 0),va] [1,2,3,4,5,6,0,7,8] ho
               . obtain ⟨xp,hL,ho⟩:=bnd ho;refine gct ho (λhv ho=>?_) λhv ho=>?_
                 . obtain ⟨xq,hM,ho⟩:=bnd ho;refine gap λvg=>?_;refine run 1 ?_;refine zbt 1 0 (U27).sz rfl rfl (by exact Nat.le_of_ble_eq_true rfl) (.n rfl) rfl rfl (.t rfl) (.t rfl) (by rfl) ?_;exact lv [vg,(gh gb 1)] [1,2,3,4,5,0,6,7,8] ho
                 . exact lv [(gh gb 0),(gh gb 1)] [0,1,2,3,4,5,6,7,8] ho
             . exact lv [(gh gb 1),(gh gb 0)] [0,6,5,7,8] ho
           . refine run 1 ?_;refine zao [1] (by kernel_rfl) ?_;refine run 1 ?_;refine zeM (zdV 1 0 (q:=0) [] rfl rfl rfl rfl (by rfl) trivial) ?_;refine zeM (zdV 1 0 (q:=1) [] rfl rfl rfl rfl (by rfl) trivial) ?_;refine glb (tc.1,tc.2,()) 0 ?_;exact we ho⟩
instance i15:FI ktab 15 (zfz) [] (λout=>[.val (zd zby) out.1,.val zih out.2.1,.val zbA out.2.2]):=⟨λout ho=>by
 delta zfz at ho;refine fn λ_ _=>?_;refine run 2 ?_;refine zd7 (.n rfl) rfl rfl (.nil (R:=zby)) ?_;exact we ho⟩
instance i80 {w_0 cars_1}:FI ktab 80 (zdO w_0 cars_1) [.val (zS zJ) w_0,.val (zd (zd (zh .i64))) cars_1] (λout=>[wB out]):=⟨λout ho=>by
 delta zdO at ho;refine fn λ_ _=>?_;obtain ⟨x1,hx1,ho⟩:=bnd ho;refine gmk λv2=>?_;obtain ⟨ta,ha,ho⟩:=bnd ho;refine gl2 ha ho [0,1,17,18] [] [0] (λs g=>([(5,.raw v2),(6,vI s.1),(19,vI s.2.1)],[(v2,.row zu s.2.2)])) (λb=>(.exit 0,λg=>([(6,vI b.1)],[]))) (λb=>(.ret,λg=>([(4,vB b)],[]))) [] (λsa gd _ ho=>?_) (λba ho ga=>?_) λbb ho ga=>?_
 . refine gct ho (λhc ho=>?_) λhc ho=>?_
   . obtain ⟨xa,hu,ho⟩:=bnd ho;refine wbr ho (λhd ho=>?_) λhd ho=>?_
     . refine gk ?_;exact we ho
     . refine wbr ho (λhe ho=>?_) λhe ho=>?_
       . obtain ⟨xb,hv,xd,hw,xe,hy,ho⟩:=zpQ ho;refine gct ho (λhf ho=>?_) λhf ho=>?_
         . exact we ho
         . obtain ⟨tb,hg,ho⟩:=bnd ho;refine gl2 hg ho [0,1,5,8,17,18,19,28,29,30,31,32,33,34,35,36,37,38,39,40,41,42,44,45] [] [0] (λs g=>([(6,vI s.1),(46,vI s.2.1)],[(v2,.row zu s.2.2)])) (λb=>(.exit 2,λg=>([(6,vI b.1)],[(v2,.row zu b.2)]))) (λb=>(.ret,λg=>([(4,vB b.1)],[]))) [] (λsb ge _ ho=>?_) (λbc ho gb=>?_) λbd ho gb=>?_
           . refine gct ho (λhh ho=>?_) λhh ho=>?_
             . obtain ⟨xf,hz,ho⟩:=bnd ho;refine gcl ho λya hA ho=>?_;refine wbr ho (λhi ho=>?_) λhi ho=>?_
               . refine gk ?_;exact we ho
               . obtain ⟨xg,hB,ho⟩:=bnd ho;refine wbr ho (λhj ho=>?_) λhj ho=>?_
                 . refine gk ?_;exact we ho
                 . refine wbr ho (λhk ho=>?_) λhk ho=>?_
                   . obtain ⟨xh,hC,ho⟩:=bnd ho;refine gcl ho λyb hD ho=>?_;refine gct ho (λhl ho=>?_) λhl ho=>?_
                     . exact we ho
                     . obtain ⟨xi,hE,ho⟩:=bnd ho;exact lv [] [0] ho
                   . refine gk ?_;refine run 5 ?_;obtain ⟨xj,hF,ho⟩:=bnd ho;exact lv [] [0] ho
             . exact lv [] [0] ho
           . exact lv [] [0] ho
           . cases ho; exact id (lf [] [])
       . refine gk ?_;obtain ⟨tc,hm,ho⟩:=bnd ho;refine gl2 hm ho [0,1,5,8,17,18,19,28,29,30,42,44,45] [] [0] (λs g=>([(6,vI s.1),(46,vI s.2.1)],[(v2,.row zu s.2.2)])) (λb=>(.exit 2,λg=>([(6,vI b.1)],[(v2,.row zu b.2)]))) (λb=>(.ret,λg=>([(4,vB b.1)],[]))) [] (λsc gf _ ho=>?_) (λbe ho gc=>?_) λbf ho gc=>?_
         . refine gct ho (λhn ho=>?_) λhn ho=>?_
           . obtain ⟨xk,hG,ho⟩:=bnd ho;refine gcl ho λyc hH ho=>?_;refine wbr ho (λhp ho=>?_) λhp ho=>?_
             . refine gk ?_;exact we ho
             . obtain ⟨xl,hI,ho⟩:=bnd ho;refine wbr ho (λhr ho=>?_) λhr ho=>?_
               . refine gk ?_;exact we ho
               . refine wbr ho (λhs ho=>?_) λhs ho=>?_
                 . obtain ⟨xm,hJ,ho⟩:=bnd ho;refine gcl ho λyd hK ho=>?_;refine gct ho (λht ho=>?_) λht ho=>?_
                   . exact we ho
                   . obtain ⟨xn,hL,ho⟩:=bnd ho;exact lv [] [0] ho
                 . refine gk ?_;refine run 5 ?_;obtain ⟨xo,hM,ho⟩:=bnd ho;exact lv [] [0] ho
           . exact lv [] [0] ho
         . exact lv [] [0] ho
         . cases ho; exact id (lf [] [])
   . exact lv [] [] ho
 . exact we ho
 . exact rv ho⟩
instance i81 {x_0}:FI ktab 81 (zg2 x_0) [vI x_0] (λout=>[wB out]):=fw
instance i44 {tasks_0 y_1 cars_2 r_3}:FI ktab 44 (zfd tasks_0 y_1 cars_2 r_3) [.val (zd zby) tasks_0,.val zih y_1,.val (zd (zd (zh .i64))) cars_2,.val zbA r_3] (λout=>[.val (ze2 zY) out.1,wB out.2]):=⟨λout ho=>by
 delta zfd at ho;refine fn λ_ _=>?_;refine run 4 ?_;refine zam rfl (.n rfl) rfl (e:=.val (ze2 zY) none) (λz fr h s=>⟨_,rfl,zb4⟩) ?_;refine gcl ho λy1 hy1 ho=>?_;refine gct ho (λhq2 ho=>?_) λhq2 ho=>?_
 . refine run 2 ?_;refine zam rfl (.n rfl) rfl (e:=.val (ze2 zY) none) (λz fr h s=>⟨_,rfl,zb4⟩) ?_;exact we ho
 . obtain ⟨c6,hc6,ho⟩:=bnd ho;refine run 15 ?_;refine gcx c6 [10] [] (λt=>(.normal,λ_=>([(45,vB t)],[]))) ?_ λ_=>?_
   . have ho:=hc6;refine gcl ho λy7 hy7 ho=>?_;refine wbr ho (λhb8 ho=>?_) λhb8 ho=>?_
     . exact we ho
     . obtain ⟨y9,hy9,ho⟩:=bnd ho;refine run 15 ?_;refine zgZ (i75.ok _ hy9) (.v zgY .n) rfl (.g rfl rfl (gf0 hb8)) rfl rfl rfl .f (.c (.o (.t rfl)) (.c (.o (.fv (zgJ (λx y hf=>i81.ok _ hf) rfl))) .n)) ?_;exact we ho
   . refine gct ho (λha ho=>?_) λha ho=>?_
     . refine run 2 ?_;refine zam rfl (.n rfl) rfl (e:=.val (ze2 zY) none) (λz fr h s=>⟨_,rfl,zb4⟩) ?_;exact we ho
     . refine run 7 ?_;cases ho;refine zn1 (zkd (n:=8) rfl) ?_;exact zea (zcZ (.inr rfl) (.v rfl (.v rfl .n)) (by decide))⟩
instance i46 {c_0}:FI ktab 46 (zc1 c_0) [.val (zS zY) c_0] (λout=>[.row zr out]):=⟨λout ho=>by
 delta zc1 at ho;refine fn λ_ _=>?_;refine gnr zr ?_;refine gnr zr ?_;obtain ⟨ta,ha,ho⟩:=bnd ho;refine glp ha [11,12] [] [0] (λs g=>([(3,.raw (gh g 0)),(13,vI s.2)],[((gh g 0),.row zr s.1)])) (λb=>(.exit 0,λg=>([(3,.raw (gh g 0))],[((gh g 0),.row zr b)]))) [.nilslice] (λsa ga _ ho=>?_) λgf=>?_
 . refine gct ho (λhc ho=>?_) λhc ho=>?_
   . obtain ⟨xa,hh,tb,hd,ho⟩:=zfI ho;refine glp hd [4,5,11,12,13,19] [] [0] (λs g=>([(3,.raw (gh g 0)),(20,vI s.2)],[((gh g 0),.row zr s.1)])) (λb=>(.exit 2,λg=>([(3,.raw (gh g 0))],[((gh g 0),.row zr b)]))) [(gh ga 0)] (λsb gb _ ho=>?_) λgc=>?_
     . refine gct ho (λhe ho=>?_) λhe ho=>?_
       . obtain ⟨tc,hf,ho⟩:=bnd ho;refine glp hf [4,5,6,11,12,13,19,20] [] [0] (λs g=>([(3,.raw (gh g 0)),(7,vI s.2)],[((gh g 0),.row zr s.1)])) (λb=>(.exit 4,λg=>([(3,.raw (gh g 0))],[((gh g 0),.row zr b)]))) [(gh gb 0)] (λsc gd _ ho=>?_) λge=>?_
         . refine gct ho (λhg ho=>?_) λhg ho=>?_
           . obtain ⟨xb,hi,ho⟩:=bnd ho;refine gap λva=>?_;exact lv [va] [0] ho
           . exact lv [(gh gd 0)] [0] ho
         . exact lv [(gh ge 0)] [0] ho
       . exact lv [(gh gb 0)] [0] ho
     . exact lv [(gh gc 0)] [0] ho
   . exact lv [(gh ga 0)] [0] ho
 . exact we ho⟩
instance i82 {p_0 p_1}:FI ktab 82 (zH p_0 p_1) [.val zr p_0,.val (zS (zS zY)) p_1] (λout=>[.val (zh .u64) out]):=⟨λout ho=>by
 delta zH at ho;refine fn λ_ _=>?_;obtain ⟨x3,hx3,x4,hx4,ta,ha,ho⟩:=zpQ ho;refine glp ha [20,21] [] [] (λs g=>([(4,.val (zh .u64) s.1),(22,vI s.2)],[])) (λb=>(.exit 0,λg=>([(4,.val (zh .u64) b)],[]))) [] (λs8 g9 _ ho=>?_) λga=>?_
 . exact we ho
 . exact we ho⟩
instance i144 {s_0 f_1}:FI ktab 144 (zal s_0 f_1) [.val (zd zr) s_0,.val (rFn ktab (zT) (Bool) (λx=>[.val zr (x)]) (λy=>[.val zu (y)])) f_1] (λout=>[wI out]):=⟨λout ho=>by
 delta zal at ho;refine fn λ_ _=>?_;obtain ⟨ta,ha,ho⟩:=bnd ho;refine gl2 ha ho [0,1,7] [] [] (λs g=>([(8,vI s)],[])) (λb=>(.exit 0,λg=>([],[]))) (λb=>(.ret,λg=>([(4,vI b)],[]))) [] (λs5 g6 _ ho=>?_) (λba ho ga=>?_) λbb ho ga=>?_
 . refine gct ho (λhq7 ho=>?_) λhq7 ho=>?_
   . obtain ⟨x8,hx8,y9,hy9,ho⟩:=zfI ho;refine gcv hy9 ?_;exact we ho
   . exact lv [] [] ho
 . exact we ho
 . exact rv ho⟩
instance i119 {s_0 f_1}:FI ktab 119 (zac s_0 f_1) [.val (zd zr) s_0,.val (rFn ktab (zT) (Bool) (λx=>[.val zr (x)]) (λy=>[.val zu (y)])) f_1] (λout=>[wB out]):=fw
instance i116 {c_0 p_1}:FI ktab 116 (zb1 c_0 p_1) [.val (zS zY) c_0,.val zr p_1] (λout=>[.val zby out]):=fw
instance i117 {c_0 p_1}:FI ktab 117 (zcu c_0 p_1) [.val (zS zY) c_0,.val zr p_1] (λout=>[.val zby out]):=fw
instance i121 {c_0 p_1}:FI ktab 121 (zey c_0 p_1) [.val (zS zY) c_0,.val zr p_1] (λout=>[wI out]):=fw
instance i120 {p_0 p_1}:FI ktab 120 (zdP p_0 p_1) [.val zr p_0,.val (zS (zS zY)) p_1] (λout=>[wB out]):=fw
instance i89 {c_0 d_1}:FI ktab 89 (zdp c_0 d_1) [.val (zS zY) c_0,.val zck d_1] (λout=>[wB out]):=⟨λout ho=>by
 delta zdp at ho;refine fn λ_ _=>?_;refine run 10 ?_;refine zfx (X:=zT) (Y:=Bool) (λx=>[.val zr x]) (λy=>[.val zu y]) (f:=(λx=>zdP x c_0)) (λx y hf=>i120.ok _ hf) rfl (.n rfl) rfl rfl .n (.c (.t rfl) .n) ?_;exact we ho⟩
instance i122 {p_0 p_1}:FI ktab 122 (zco p_0 p_1) [.val zr p_0,.val (zS (zS zY)) p_1] (λout=>[wB out]):=⟨λout ho=>by
 delta zco at ho;refine fn λ_ _=>?_;obtain ⟨ca,ha,ho⟩:=bnd ho;refine run 6 ?_;refine gcx ca [] [] (λt=>(.normal,λ_=>([(3,vB t)],[]))) ?_ λ_=>?_
 . exact we ha
 . exact rv ho⟩
instance i90 {c_0 d_1}:FI ktab 90 (zc2 c_0 d_1) [.val (zS zY) c_0,.val zck d_1] (λout=>[wB out]):=⟨λout ho=>by
 delta zc2 at ho;refine fn λ_ _=>?_;refine run 10 ?_;refine zfx (X:=zT) (Y:=Bool) (λx=>[.val zr x]) (λy=>[.val zu y]) (f:=(λx=>zco x c_0)) (λx y hf=>i122.ok _ hf) rfl (.n rfl) rfl rfl .n (.c (.t rfl) .n) ?_;exact we ho⟩
instance i123 {c_0 d_1}:FI ktab 123 (zcO c_0 d_1) [.val (zS zY) c_0,.val zck d_1] (λout=>[wI out.1,wI out.2]):=⟨λout ho=>by
 delta zcO at ho;refine fn λ_ _=>?_;obtain ⟨x7,hx7,ho⟩:=bnd ho;refine gcl ho λy8 hy8 ho=>?_;obtain ⟨x9,hx9,ho⟩:=bnd ho;refine gcl ho λya ha ho=>?_;refine gal λba=>?_;refine gal λbb=>?_;refine gfz 1 zby y8 1 [6] ?_;refine gfz 1 zby ya 0 [7] ?_;exact we ho⟩
instance i91 {c_0 d_1}:FI ktab 91 (zcv c_0 d_1) [.val (zS zY) c_0,.val zck d_1] (λout=>[wB out]):=⟨λout ho=>by
 delta zcv at ho;refine fn λ_ _=>?_;refine gct ho (λhq1 ho=>?_) λhq1 ho=>?_
 . exact we ho
 . refine gcl ho λy2 hy2 ho=>?_;obtain ⟨c4,hc4,ho⟩:=bnd ho;refine run 7 ?_;refine gcx c4 [] [] (λt=>(.normal,λ_=>([(4,vB t)],[]))) ?_ λ_=>?_
   . exact we hc4
   . exact rv ho⟩
instance i92 {c_0 d_1}:FI ktab 92 (zdq c_0 d_1) [.val (zS zY) c_0,.val zck d_1] (λout=>[wB out]):=⟨λout ho=>by
 delta zdq at ho;refine fn λ_ _=>?_;obtain ⟨c3,hc3,ho⟩:=bnd ho;refine run 7 ?_;refine gcx c3 [0,3] [] (λt=>(.normal,λ_=>([(15,vB t)],[]))) ?_ λ_=>?_
 . exact we hc3
 . exact we ho⟩
instance i84 {c_0 d_1}:FI ktab 84 (ze4 c_0 d_1) [.val (zS zY) c_0,.val zck d_1] (λout=>[wI out]):=fw
instance i93 {c_0 d_1}:FI ktab 93 (ze5 c_0 d_1) [.val (zS zY) c_0,.val zck d_1] (λout=>[wB out]):=fw
instance i94 {c_0 d_1}:FI ktab 94 (zdK c_0 d_1) [.val (zS zY) c_0,.val zck d_1] (λout=>[wB out]):=⟨λout ho=>by
 delta zdK at ho;refine fn λ_ _=>?_;obtain ⟨ta,ha,ho⟩:=bnd ho;refine glp ha [0,20,21] [] [] (λs g=>([(5,vI s.1),(22,vI s.2)],[])) (λb=>(.exit 0,λg=>([(5,vI b)],[]))) [] (λs5 g6 _ ho=>?_) λga=>?_
 . refine gct ho (λhq7 ho=>?_) λhq7 ho=>?_
   . obtain ⟨x8,hx8,ho⟩:=bnd ho;refine gal λb9=>?_;refine gfz 1 zr x8 0 [7] ?_;exact we ho
   . exact lv [] [] ho
 . exact we ho⟩
instance i47 {c_0 d_1}:FI ktab 47 (zc3 c_0 d_1) [.val (zS zY) c_0,.val zck d_1] (λout=>[.row (zh .i64) out]):=⟨λout ho=>by
 delta zc3 at ho;refine fn λ_ _=>?_;refine gnr (zh .i64) ?_;refine run 4 ?_;refine zfx (X:=Duty) (Y:=Bool) (λx=>[.val zck x]) (λy=>[.val zu y]) (f:=(λx=>zdp c_0 x)) (λx y hf=>i89.ok _ hf) rfl (.n rfl) rfl rfl (.c (.t rfl) .n) .n ?_;refine run 1 ?_;refine zfx (X:=Duty) (Y:=Bool) (λx=>[.val zck x]) (λy=>[.val zu y]) (f:=(λx=>zc2 c_0 x)) (λx y hf=>i90.ok _ hf) rfl (.n rfl) rfl rfl (.c (.t rfl) .n) .n ?_;refine run 1 ?_;refine zfx (X:=Duty) (Y:=Bool) (λx=>[.val zck x]) (λy=>[.val zu y]) (f:=(λx=>zcv c_0 x)) (λx y hf=>i91.ok _ hf) rfl (.n rfl) rfl rfl (.c (.t rfl) .n) .n ?_;refine run 1 ?_;refine zfx (X:=Duty) (Y:=Bool) (λx=>[.val zck x]) (λy=>[.val zu y]) (f:=(λx=>zdq c_0 x)) (λx y hf=>i92.ok _ hf) rfl (.n rfl) rfl rfl (.c (.t rfl) .n) .n ?_;refine run 1 ?_;refine zfx (X:=Duty) (Y:=Bool) (λx=>[.val zck x]) (λy=>[.val zu y]) (f:=(λx=>ze5 c_0 x)) (λx y hf=>i93.ok _ hf) rfl (.n rfl) rfl rfl (.c (.t rfl) .n) .n ?_;refine run 1 ?_;refine zfx (X:=Duty) (Y:=Bool) (λx=>[.val zck x]) (λy=>[.val zu y]) (f:=(λx=>zdK c_0 x)) (λx y hf=>i94.ok _ hf) rfl (.n rfl) rfl rfl (.c (.t rfl) .n) .n ?_;refine zlU (R:=(rFn ktab Duty Bool (λx=>[.val zck x]) (λy=>[.val zu y]))) (zc:=[.nilfunc,.nilfunc,.nilfunc,.nilfunc,.nilfunc,.nilfunc]) ia' (by kernel_rfl) (by rfl) (.n rfl) rfl rfl (.c (.t rfl) (.c (.t rfl) (.c (.t rfl) (.c (.t rfl) (.c (.t rfl) (.c (.t rfl) .n)))))) (by rfl) ?_
 refine gal λb1=>?_;refine zga 0 ia' rfl (by rfl) (by decide) (.n rfl) rfl rfl (.t rfl) (.t rfl) (by rfl) ?_;refine zeM (ziK (R:=(rFn ktab Duty Bool (λx=>[.val zck x]) (λy=>[.val zu y]))) 0 [5] (by decide) (by decide) rfl rfl ⟨rfl,trivial⟩) ?_;refine gnr (zh .i64) ?_;obtain ⟨ta,ha,ho⟩:=bnd ho;refine glp ha [3,22] [] [0] (λs g=>([(6,.raw (gh g 0)),(23,vI s.2)],[((gh g 0),.row (zh .i64) s.1)])) (λb=>(.exit 0,λg=>([(6,.raw (gh g 0))],[((gh g 0),.row (zh .i64) b)]))) [.nilslice] (λs8 g9 _ ho=>?_) λga=>?_
 . refine gct ho (λhc ho=>?_) λhc ho=>?_
   . obtain ⟨xa,hg,ya,hd,ho⟩:=zfI ho;refine gcv hd ?_;refine gct ho (λhe ho=>?_) λhe ho=>?_
     . obtain ⟨xb,hh,ho⟩:=bnd ho;refine gap λva=>?_;exact lv [va] [0] ho
     . exact lv [(gh g9 0)] [0] ho
   . exact lv [(gh g9 0)] [0] ho
 . exact we ho⟩
theorem zd2 {s_0 l_1 p_2 p_3 out} (ho:zb6 s_0 l_1 p_2 p_3=some out) (b_3:Nat) (hv_3_0:ze):zgM ktab 83 [.val (zh .u64) s_0,.val (zd zr) l_1,.val (zS (zS zY)) p_2,.raw (.ptr b_3 0)] [(.ptr b_3 0,.box [.raw hv_3_0]),(hv_3_0,.row zg (p_3))] [] (λγ=>[(.ptr b_3 0,.box [.raw (gh γ 0)]),((gh γ 0),.row zg (out))]):=by
 refine zdN (F:=Tryz.f83) (by rfl) (by rfl) (by rfl) (λC=>?_);delta zb6 at ho;refine gal λb1=>?_;refine gfz 1 zck ((l_1,()):Duty) 0 [6] ?_;refine gcl ho λy2 hy2 ho=>?_;intro v3;show zm ..;refine gct ho (λhq4 ho=>?_) λhq4 ho=>?_
 . refine zao [0] (by kernel_rfl) ?_;refine gcl ho λy8 hy8 ho=>?_;obtain ⟨x9,hx9,ho⟩:=bnd ho;refine gap λva=>?_;refine zbt 2 0 (zzu).sz rfl rfl (by exact Nat.le_of_ble_eq_true rfl) (.n rfl) rfl rfl (.t rfl) (.t rfl) (by rfl) ?_;cases ho; exact zfH (zaF [2,0] [va] (.inl rfl) .n rfl (by decide))
 . cases ho; exact zf9 (zaF [1,2] [hv_3_0] (.inl rfl) .n rfl (by decide))
end Go.Ai.TabYtghlaibcihhbcaaGreat