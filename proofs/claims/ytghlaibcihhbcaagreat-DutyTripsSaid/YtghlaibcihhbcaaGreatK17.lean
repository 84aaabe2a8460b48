/- Written by program: walks through functions. -/
import Derived.Test.YtghlaibcihhbcaaGreatK11
import Derived.Test.YtghlaibcihhbcaaGreatK16
set_option linter.unusedSimpArgs false
set_option linter.unusedVariables false
set_option linter.unusedSectionVars false
namespace Go.Ai.TabYtghlaibcihhbcaaGreat
open Go Go.Ai Go.Ai.Sx Go.Proofs
attribute [local irreducible] zm
set_option maxRecDepth 100000
set_option maxHeartbeats 4000000
instance i5 {p_0 s_1}:FI ktab 5 (zeb p_0 s_1) [.val zbJ p_0,.val zc0 s_1] (λout=>[wB out]):=⟨λout ho=>by
 delta zeb at ho;refine fn λ_ _=>?_;obtain ⟨c5,hc5,ho⟩:=bnd ho;refine run 7 ?_;refine gcx c5 [] [] (λt=>(.normal,λ_=>([(4,vB t)],[]))) ?_ λ_=>?_
 . exact we hc5
 . exact rv ho⟩
instance i31 {x_0 low_1 high_2}:FI ktab 31 (zae x_0 low_1 high_2) [vI x_0,vI low_1,vI high_2] (λout=>[wB out]):=⟨λout ho=>by
 delta zae at ho;refine fn λ_ _=>?_;obtain ⟨c2,hc2,ho⟩:=bnd ho;refine run 5 ?_;refine gcx c2 [] [] (λt=>(.normal,λ_=>([(6,vB t)],[]))) ?_ λ_=>?_
 . exact we hc2
 . exact rv ho⟩
instance i65 {l_0}:FI ktab 65 (zdr l_0) [.val ze3 l_0] (λout=>[.val (zjn 2 zcU) out]):=⟨λout ho=>by
 delta zdr at ho;refine fn λ_ _=>?_;refine gal λb1=>?_;refine run 7 ?_;refine zlU (R:=zcU) (zc:=[.nilslice,.nilslice,.nilslice,.nilslice,.nilslice,.nilslice]) ia' (by kernel_rfl) (by rfl) (.n rfl) rfl rfl (.c (.t rfl) (.c (.t rfl) .n)) (by rfl) ?_;refine zga 0 ia' rfl (by rfl) (by decide) (.n rfl) rfl rfl (.t rfl) (.t rfl) (by rfl) ?_;refine run 1 ?_;cases ho; exact zea (zcZ (.inr rfl) (.a 0 ia' rfl rfl .n) (by decide))⟩
instance i103 {x_0 low_1 high_2}:FI ktab 103 (zN x_0 low_1 high_2) [vI x_0,vI low_1,vI high_2] (λout=>[wB out]):=⟨λout ho=>by
 delta zN at ho;refine fn λ_ _=>?_;obtain ⟨c2,hc2,ho⟩:=bnd ho;refine run 5 ?_;refine gcx c2 [] [] (λt=>(.normal,λ_=>([(6,vB t)],[]))) ?_ λ_=>?_
 . exact we hc2
 . exact rv ho⟩
instance i131 {s_0 f_1}:FI ktab 131 (zas s_0 f_1) [.val (zd zb5) s_0,.val (rFn ktab (zcM) (Bool) (λx=>[.val zb5 (x)]) (λy=>[.val zu (y)])) f_1] (λout=>[wI out]):=⟨λout ho=>by
 delta zas at ho;refine fn λ_ _=>?_;obtain ⟨ta,ha,ho⟩:=bnd ho;refine gl2 ha ho [0,1,7] [] [] (λs g=>([(8,vI s)],[])) (λb=>(.exit 0,λg=>([],[]))) (λb=>(.ret,λg=>([(4,vI b)],[]))) [] (λs5 g6 _ ho=>?_) (λba ho ga=>?_) λbb ho ga=>?_
 . refine gct ho (λhq7 ho=>?_) λhq7 ho=>?_
   . obtain ⟨x8,hx8,y9,hy9,ho⟩:=zfI ho;refine gcv hy9 ?_;exact we ho
   . exact lv [] [] ho
 . exact we ho
 . exact rv ho⟩
instance i104 {s_0 f_1}:FI ktab 104 (zah s_0 f_1) [.val (zd zb5) s_0,.val (rFn ktab (zcM) (Bool) (λx=>[.val zb5 (x)]) (λy=>[.val zu (y)])) f_1] (λout=>[wB out]):=fw
instance i132 {s_0}:FI ktab 132 (zcF s_0) [.val zcj s_0] (λout=>[wB out]):=⟨λout ho=>by
 delta zcF at ho;refine fn λ_ _=>?_;obtain ⟨c4,hc4,ho⟩:=bnd ho;refine run 6 ?_;refine gcx c4 [] [] (λt=>(.normal,λ_=>([(2,vB t)],[]))) ?_ λ_=>?_
 . exact we hc4
 . exact rv ho⟩
instance i133:FI ktab 133 (zfe) [] (λout=>[.val (zjn 7 (zh .i64)) out]):=⟨λout ho=>by
 delta zfe at ho;refine fn λ_ _=>?_;refine gal λb1=>?_;refine run 3 ?_;refine zna (R:=(zh .i64)) (zc:=[.int .i64 0,.int .i64 0,.int .i64 0,.int .i64 0,.int .i64 0,.int .i64 0,.int .i64 0]) 1 0 ia' (by kernel_rfl) (by rfl) (λ_ j hj=>(match j,hj with | 0,_=>zint)) (.n rfl) rfl rfl (.c (.i (by decide) (by decide)) (.c (.i (by decide) (by decide)) (.c (.i (by decide) (by decide)) (.c (.i (by decide) (by decide)) (.c (.i (by decide) (by decide)) (.c (.i (by decide) (by decide)) .n)))))) (by rfl) ?_;refine zga 0 ia' rfl (by rfl) (by decide) (.n rfl) rfl rfl (.t rfl) (.t rfl) (by rfl) ?_;refine run 1 ?_;cases ho; exact zea (zcZ (.inr rfl) (.a 0 ia' rfl rfl .n) (by decide))⟩
instance i106 {n_0}:FI ktab 106 (zeO n_0) [.val zb5 n_0] (λout=>[wB out]):=⟨λout ho=>by
 delta zeO at ho;refine fn λ_ _=>?_;obtain ⟨ca,ha,ho⟩:=bnd ho;refine run 7 ?_;refine gcx ca [1] [] (λt=>(.normal,λ_=>([(26,vB t)],[]))) ?_ λ_=>?_
 . exact we ha
 . refine gct ho (λhc ho=>?_) λhc ho=>?_
   . exact we ho
   . obtain ⟨cc,hd,ho⟩:=bnd ho;refine run 3 ?_;refine gcx cc [1] [] (λt=>(.normal,λ_=>([(34,vB t)],[]))) ?_ λ_=>?_
     . exact we hd
     . exact we ho⟩
instance i105 {n_0}:FI ktab 105 (zfA n_0) [.val zb5 n_0] (λout=>[wB out]):=fw
instance i134 {s_0 f_1}:FI ktab 134 (zat s_0 f_1) [.val (zd zex) s_0,.val (rFn ktab (Rail) (Bool) (λx=>[.val zex (x)]) (λy=>[.val zu (y)])) f_1] (λout=>[wI out]):=⟨λout ho=>by
 delta zat at ho;refine fn λ_ _=>?_;obtain ⟨ta,ha,ho⟩:=bnd ho;refine gl2 ha ho [0,1,7] [] [] (λs g=>([(8,vI s)],[])) (λb=>(.exit 0,λg=>([],[]))) (λb=>(.ret,λg=>([(4,vI b)],[]))) [] (λs5 g6 _ ho=>?_) (λba ho ga=>?_) λbb ho ga=>?_
 . refine gct ho (λhq7 ho=>?_) λhq7 ho=>?_
   . obtain ⟨x8,hx8,y9,hy9,ho⟩:=zfI ho;refine gcv hy9 ?_;exact we ho
   . exact lv [] [] ho
 . exact we ho
 . exact rv ho⟩
instance i107 {s_0 f_1}:FI ktab 107 (zai s_0 f_1) [.val (zd zex) s_0,.val (rFn ktab (Rail) (Bool) (λx=>[.val zex (x)]) (λy=>[.val zu (y)])) f_1] (λout=>[wB out]):=fw
instance i169 {n_1}:FI ktab 169 (zap n_1) [.raw .nilslice,vI n_1] (λout=>[.row zcj out]):=⟨λout ho=>by
 delta zap at ho;refine fn λ_ _=>?_;refine run 2 ?_;refine zd7 (.n rfl) rfl rfl (.nil (R:=zcj)) ?_;refine gct ho (λhq1 ho=>?_) λhq1 ho=>?_
 . refine run 1 ?_;cases ho
 . refine run 6 ?_;refine zoV (et:=135) (by kernel_rfl) rfl (.n rfl) rfl rfl (.t rfl) ?_;refine run 1 ?_;refine zeM (znb zcj (n:=11) rfl) ?_;refine gct ho (λhq2 ho=>?_) λhq2 ho=>?_
   . refine run 3 ?_;refine zoV (et:=135) (by kernel_rfl) rfl (.n rfl) rfl rfl (.t rfl) ?_;refine zvc (et:=135) (n:=2) (by kernel_rfl) (by kernel_rfl) (.n rfl) rfl rfl (.t rfl) (.t rfl) ?_;obtain ⟨x3,hx3,ho⟩:=bnd ho;refine run 1 ?_;refine zxi is' iy' iz' (by kernel_rfl) rfl hx3 rfl (.n rfl) rfl rfl (.t rfl) (.t rfl) rfl ?_;intro v4;refine run 1 ?_;refine zeM (znb zcj (n:=23) rfl) ?_;obtain ⟨x5,hx5,ho⟩:=bnd ho;refine run 1 ?_;refine zxj 0 is' (zvb hx5) (.n rfl) rfl rfl (.t rfl) rfl (.t rfl) rfl ?_;intro v6;exact we ho
   . refine run 6 ?_;cases ho;refine zn1 (zbS zcj) ?_;exact zea (zcZ (.inr rfl) (.r 0 rfl rfl .n) (by decide))⟩
instance i158 {slices_0}:FI ktab 158 (zaj slices_0) [.val (zd (zd zcj)) slices_0] (λout=>[.row zcj out]):=⟨λout ho=>by
 delta zaj at ho;refine fn λ_ _=>?_;refine gnr zcj ?_;obtain ⟨t9,ht9,ho⟩:=bnd ho;refine glp ht9 [0,9,10] [] [] (λs g=>([(3,vI s.1),(11,vI s.2)],[])) (λb=>(.exit 0,λg=>([(3,vI b)],[]))) [] (λs4 g5 _ ho=>?_) λgb=>?_
 . refine gct ho (λhq6 ho=>?_) λhq6 ho=>?_
   . obtain ⟨x7,hx7,ho⟩:=bnd ho;refine gct ho (λhq8 ho=>?_) λhq8 ho=>?_
     . refine run 1 ?_;cases ho
     . exact we ho
   . exact lv [] [] ho
 . obtain ⟨ya,ha,ho⟩:=bnd ho;refine run 3 ?_;refine zgZ (i169.ok _ ha) (.r (zj3 zie (zj3 zie zm0)) .n) rfl (.n rfl) rfl rfl rfl .f (.c (.o .nilr) (.c (.o (.t rfl)) .n)) ?_;intro va;show zm ..;obtain ⟨ta,hc,ho⟩:=bnd ho;refine glp hc [25,26] [] [0] (λs g=>([(6,.raw (gh g 0)),(27,vI s.2)],[((gh g 0),.row zcj s.1)])) (λb=>(.exit 2,λg=>([(6,.raw (gh g 0))],[((gh g 0),.row zcj b)]))) [va] (λsa ga _ ho=>?_) λgc=>?_
   . refine gct ho (λhd ho=>?_) λhd ho=>?_
     . obtain ⟨xa,he,xb,hf,ho⟩:=zfI ho;refine gap λvb=>?_;exact lv [vb] [0] ho
     . exact lv [(gh ga 0)] [0] ho
   . exact we ho⟩
instance i135 {p_0 r_1}:FI ktab 135 (zdX p_0 r_1) [.val zbJ p_0,.val zex r_1] (λout=>[.row zcj out]):=⟨λout ho=>by
 delta zdX at ho;refine fn λ_ _=>?_;refine gnr zcj ?_;obtain ⟨x5,hx5,x6,hx6,ho⟩:=zfI ho;refine gcl ho λy7 hy7 ho=>?_;intro v8;exact we ho⟩
instance i159 {n_0}:FI ktab 159 (zeP n_0) [vI n_0] (λout=>[wI out]):=⟨λout ho=>by
 delta zeP at ho;refine fn λ_ _=>?_;refine run 7 ?_;refine zyC (by kernel_rfl) (by kernel_rfl) (.n rfl) rfl rfl (.t rfl) ?_;obtain ⟨x1,hx1,ho⟩:=bnd ho;refine zw0 (p:=zpO) rfl (zs8 hx1) (λ_=>zoU) (.n rfl) rfl rfl rfl .f (zyB (.t rfl)) ?_;obtain ⟨x2,hx2,ho⟩:=bnd ho;refine zyD (by kernel_rfl) (by kernel_rfl) hx2 (.n rfl) rfl rfl (.t rfl) ?_;obtain ⟨t7,ht7,ho⟩:=bnd ho;refine glp ht7 [0] [] [] (λs g=>([(3,vI s)],[])) (λb=>(.exit 0,λg=>([(3,vI b)],[]))) [] (λs4 g5 _ ho=>?_) λg8=>?_
 . exact we ho
 . obtain ⟨ta,ha,ho⟩:=bnd ho;refine glp ha [0] [] [] (λs g=>([(3,vI s)],[])) (λb=>(.exit 2,λg=>([(3,vI b)],[]))) [] (λsa ga _ ho=>?_) λgb=>?_
   . exact we ho
   . exact we ho⟩
instance i136 {a_0 b_1}:FI ktab 136 (zcG a_0 b_1) [.val zcj a_0,.val zcj b_1] (λout=>[wI out]):=fw
instance i109 {p_0 r_1}:FI ktab 109 (zeQ p_0 r_1) [.val zbJ p_0,.val zex r_1] (λout=>[wB out]):=⟨λout ho=>by
 delta zeQ at ho;refine fn λ_ _=>?_;obtain ⟨c9,hc9,ho⟩:=bnd ho;refine run 8 ?_;refine gcx c9 [2,3] [] (λt=>(.normal,λ_=>([(43,vB t)],[]))) ?_ λ_=>?_
 . exact we hc9
 . refine gct ho (λha ho=>?_) λha ho=>?_
   . exact we ho
   . refine gcl ho λya hh ho=>?_;intro va;show zm ..;obtain ⟨ta,hc,ho⟩:=bnd ho;refine gl2 hc ho [5,47,48] [] [0] (λs g=>([(49,vI s)],[(va,.row zcj ya)])) (λb=>(.exit 0,λg=>([],[]))) (λb=>(.ret,λg=>([(4,vB b)],[]))) [] (λsa gb _ ho=>?_) (λba ho ga=>?_) λbb ho ga=>?_
     . refine gct ho (λhd ho=>?_) λhd ho=>?_
       . obtain ⟨xa,hi,ho⟩:=bnd ho;refine gal λbc=>?_;refine gfz 2 zcj xa 0 [7] ?_;refine run 2 ?_;refine zao [11] (by kernel_rfl) ?_;refine gcl ho λyb hj ho=>?_;refine wbr ho (λhe ho=>?_) λhe ho=>?_
         . refine gk ?_;exact we ho
         . refine wbr ho (λhf ho=>?_) λhf ho=>?_
           . obtain ⟨xb,hk,ho⟩:=bnd ho;refine gcl ho λyc hl ho=>?_;refine gcl ho λyd hm ho=>?_;refine gct ho (λhg ho=>?_) λhg ho=>?_
             . exact we ho
             . exact lv [] [0] ho
           . refine gk ?_;exact lv [] [0] ho
       . exact lv [] [] ho
     . exact we ho
     . exact rv ho⟩
instance i108 {r_0 p_1}:FI ktab 108 (zed r_0 p_1) [.val zex r_0,.val (zS zbJ) p_1] (λout=>[wB out]):=fw
instance i110 {p_0 e_1}:FI ktab 110 (zch p_0 e_1) [.val zbJ p_0,.val zQ e_1] (λout=>[wI out]):=fw
instance i72 {p_0}:FI ktab 72 (zds p_0) [.val zbJ p_0] (λout=>[wI out]):=⟨λout ho=>by
 delta zds at ho;refine fn λ_ _=>?_;obtain ⟨c4,hc4,ho⟩:=bnd ho;refine run 7 ?_;refine gcx c4 [1] [] (λt=>(.normal,λ_=>([(19,vB t)],[]))) ?_ λ_=>?_
 . exact we hc4
 . refine gct ho (λhq8 ho=>?_) λhq8 ho=>?_
   . exact we ho
   . obtain ⟨ca,hd,ho⟩:=bnd ho;refine run 3 ?_;refine gcx ca [1] [] (λt=>(.normal,λ_=>([(28,vB t)],[]))) ?_ λ_=>?_
     . have ho:=hd;obtain ⟨ya,he,ho⟩:=bnd ho;refine run 3 ?_;refine zgZ (i104.ok _ he) (.v zgY .n) rfl (.n rfl) rfl rfl rfl .f (.c (.o (.t rfl)) (.c (.o (.fv (zgJ (λx y hf=>i105.ok _ hf) rfl))) .n)) ?_;show zm ..;refine wbr ho (λha ho=>?_) λha ho=>?_
       . exact we ho
       . refine run 3 ?_;refine zfx (X:=Rail) (Y:=Bool) (λx=>[.val zex x]) (λy=>[.val zu y]) (f:=(λx=>zed x p_0)) (λx y hf=>i108.ok _ hf) rfl (.g rfl rfl (gf0 ha)) rfl rfl .n (.c (.t rfl) .n) ?_;exact we ho
     . refine gct ho (λhg ho=>?_) λhg ho=>?_
       . exact we ho
       . refine run 3 ?_;refine zn7 zu zvp rfl (.n rfl) rfl rfl ?_;intro ba;obtain ⟨ta,hh,ho⟩:=bnd ho;refine gl2 hh ho [1,31,32] [] [0] (λs g=>([(3,.raw (.map ba)),(33,vI s.1)],[(.map ba,.mp zQ zu s.2)])) (λb=>(.exit 0,λg=>([(3,.raw (.map ba))],[(.map ba,.mp zQ zu b)]))) (λb=>(.ret,λg=>([(2,vI b)],[]))) [] (λsa gc _ ho=>?_) (λbb ho ga=>?_) λbc ho ga=>?_
         . refine gct ho (λhi ho=>?_) λhi ho=>?_
           . obtain ⟨xa,hp,ho⟩:=bnd ho;refine gal λbd=>?_;refine gfz 2 zb5 xa 0 [5] ?_;obtain ⟨tb,hj,ho⟩:=bnd ho;refine gl2 hj ho [1,3,4,31,32,33,39,40] [] [0] (λs g=>([(41,vI s.1)],[(.map ba,.mp zQ zu s.2)])) (λb=>(.exit 2,λg=>([],[(.map ba,.mp zQ zu b)]))) (λb=>(.ret,λg=>([(2,vI b.1)],[]))) [] (λsb gd _ ho=>?_) (λbe ho gb=>?_) λbf ho gb=>?_
             . refine gct ho (λhk ho=>?_) λhk ho=>?_
               . obtain ⟨xb,hr,ho⟩:=bnd ho;refine gal λbg=>?_;refine gfz 1 zQ xb 0 [7] ?_;refine gcl ho λyb hs ho=>?_;refine wbr ho (λhc ho=>?_) λhc ho=>?_
                 . refine gk ?_;exact we ho
                 . refine run 4 ?_;refine zxg 0 rfl zvp iz' rfl (.g rfl rfl (gf0 hc)) rfl rfl (.t rfl) (.t rfl) ?_;refine wbr ho (λhl ho=>?_) λhl ho=>?_
                   . refine gk ?_;exact we ho
                   . refine gcl ho λyc ht ho=>?_;refine gct ho (λhm ho=>?_) λhm ho=>?_
                     . exact we ho
                     . refine run 4 ?_;refine zhk 0 zvp (.inl rfl) rfl (.n rfl) rfl (.t rfl) (.t rfl) .b rfl ?_;exact lv [] [0] ho
               . exact lv [] [0] ho
             . exact lv [] [0] ho
             . cases ho; exact id (lf [] [])
           . exact lv [] [0] ho
         . obtain ⟨xd,hn,ho⟩:=bnd ho;refine run 4 ?_;refine zxk (st:=201) (kt:=148) (et:=4) 0 rfl (by kernel_rfl) hn rfl rfl (.n rfl) rfl rfl (.t rfl) ?_;exact we ho
         . exact rv ho⟩
instance i137 {p_0}:FI ktab 137 (zdY p_0) [.val zbJ p_0] (λout=>[.val (ze2 z9) out.1,wB out.2]):=⟨λout ho=>by
 delta zdY at ho;refine fn λ_ _=>?_;refine run 3 ?_;refine zam rfl (.n rfl) rfl (e:=.val (ze2 z9) none) (λz fr h s=>⟨_,rfl,zb4⟩) ?_;refine gcl ho λy1 hy1 ho=>?_;refine gct ho (λhq2 ho=>?_) λhq2 ho=>?_
 . refine run 2 ?_;refine zam rfl (.n rfl) rfl (e:=.val (ze2 z9) none) (λz fr h s=>⟨_,rfl,zb4⟩) ?_;exact we ho
 . refine run 4 ?_;refine zn7 (zh .i64) zvq rfl (.n rfl) rfl rfl ?_;intro b3;refine zeM (zq8 (n:=18) rfl) ?_;refine zlS (R:=ziI) zyJ (.n rfl) rfl rfl rfl (.p (.t rfl) rfl (.z (λ_=>zrc) (.p (.t rfl) rfl (.n rfl)))) ?_;refine xbo λb4=>?_;refine zeM (zhl (q:=2) 0 rfl rfl rfl) ?_;refine zeM (zbS (zh .i64)) ?_;refine zeM (zpN (q:=3) 1 rfl rfl rfl) ?_;obtain ⟨ta,ha,ho⟩:=bnd ho;refine glp ha [1,4,22,23] [2] [1,0,2] (λs g=>([(24,vI s.1)],[(.ptr b4 0,.box [.val (zd zb5) p_0.1,.val (zd zex) p_0.2.1,.raw (gh g 0),.raw (.map b3)]),((gh g 0),.row (zh .i64) s.2)])) (λb=>(.exit 0,λg=>([],[(.ptr b4 0,.box [.val (zd zb5) p_0.1,.val (zd zex) p_0.2.1,.raw (gh g 0),.raw (.map b3)]),((gh g 0),.row (zh .i64) b)]))) [.nilslice] (λsa ga _ ho=>?_) λgb=>?_
   . refine gct ho (λhc ho=>?_) λhc ho=>?_
     . obtain ⟨xa,hj,ho⟩:=bnd ho;refine gal λba=>?_;refine gfz 1 zex xa 0 [6] ?_;refine gcl ho λya hk ho=>?_;intro va;show zm ..;obtain ⟨tc,hd,ho⟩:=bnd ho;refine glp hd [1,4,7,22,23,24] [1,2,3] [0,1,2,3] (λs g=>([(8,vI s.1),(9,vI s.2)],[(va,.row zcj ya)])) (λb=>(.exit 2,λg=>([(8,vI b)],[]))) [] (λsb gc _ ho=>?_) λgd=>?_
       . refine gct ho (λhe ho=>?_) λhe ho=>?_
         . refine run 3 ?_;refine zao [5,9] (by kernel_rfl) ?_;obtain ⟨xe,hl,xf,hm,ho⟩:=zfI ho;refine gcl ho λyb hn ho=>?_;exact lv [] [0,1,2,3] ho
         . exact lv [] [1,2,3] ho
       . obtain ⟨xg,hp,ho⟩:=bnd ho;refine gap λvb=>?_;refine run 2 ?_;refine zbt 1 0 (U27).sz rfl rfl (by exact Nat.le_of_ble_eq_true rfl) (.n rfl) rfl rfl (.t rfl) (.t rfl) (by rfl) ?_;exact lv [vb] [1,0,2] ho
     . exact lv [(gh ga 0)] [0,1,2] ho
   . obtain ⟨tb,hf,ho⟩:=bnd ho;refine glp hf [4,61,62] [0,1] [2,0,1] (λs g=>([(63,vI s.1)],[(.map b3,.mp zQ (zh .i64) s.2)])) (λb=>(.exit 4,λg=>([],[(.map b3,.mp zQ (zh .i64) b)]))) [] (λsc ge _ ho=>?_) λgf=>?_
     . refine gct ho (λhg ho=>?_) λhg ho=>?_
       . obtain ⟨xb,hr,ho⟩:=bnd ho;refine gal λbb=>?_;refine gfz 1 zb5 xb 0 [11] ?_;obtain ⟨td,hh,ho⟩:=bnd ho;refine glp hh [4,61,62,63,68,69] [1,2] [0,1,2] (λs g=>([(70,vI s.1)],[(.map b3,.mp zQ (zh .i64) s.2)])) (λb=>(.exit 6,λg=>([],[(.map b3,.mp zQ (zh .i64) b)]))) [] (λsd gg _ ho=>?_) λgi=>?_
         . refine gct ho (λhi ho=>?_) λhi ho=>?_
           . obtain ⟨xd,hs,ho⟩:=bnd ho;refine gal λbc=>?_;refine gfz 2 zQ xd 0 [13] ?_;refine run 1 ?_;refine zao [3] (by kernel_rfl) ?_;refine run 6 ?_;refine zhk 0 zvq (.inl rfl) rfl (.n rfl) rfl (.t rfl) (.t rfl) (.t rfl) rfl ?_;exact lv [] [0,1,2] ho
           . exact lv [] [0,1,2] ho
         . exact lv [] [0,1,2] ho
       . exact lv [] [0,1,2] ho
     . refine run 6 ?_;cases ho;refine zn1 (zn8 0 0 (q:=3) [] rfl rfl rfl rfl (by rfl) trivial) ?_;refine zn1 (zdV 1 0 (q:=2) [] rfl rfl rfl rfl (by rfl) trivial) ?_;refine zn1 (zdo (R:=z9) (a:=((p_0.1,p_0.2.1,()),ta,tb,())) 0 [4,83,2] (zq (zq (zB rfl) (zq (zB rfl) zb0 rfl) rfl) (zq (zB rfl) (zq (zB rfl) zb0 rfl) rfl) rfl) rfl rfl ⟨rfl,rfl,rfl,trivial⟩) ?_;refine zn1 (zkd (n:=2) rfl) ?_;exact zea (zcZ (.inr rfl) (.v rfl (.v rfl .n)) (by decide))⟩
instance i160 {n_0 m_1}:FI ktab 160 (zbm n_0 m_1) [.val (zS z9) n_0,.val z5 m_1] (λout=>[wB out]):=fw
instance i182 {m_0}:FI ktab 182 (zee m_0) [.val z5 m_0] (λout=>[.val zQ out]):=fw
instance i193 {p_0 from_1 to_2}:FI ktab 193 (zfB p_0 from_1 to_2) [.val zaq p_0,vI from_1,vI to_2] (λout=>[wB out]):=fw
instance i194 {p_0 from_1 to_2}:FI ktab 194 (zeR p_0 from_1 to_2) [.val zaq p_0,vI from_1,vI to_2] (λout=>[wB out]):=fw
instance i195 {p_0 from_1 to_2}:FI ktab 195 (zbv p_0 from_1 to_2) [.val zaq p_0,vI from_1,vI to_2] (λout=>[wB out]):=⟨λout ho=>by
 delta zbv at ho;refine fn λ_ _=>?_;obtain ⟨c3,hc3,ho⟩:=bnd ho;refine run 6 ?_;refine gcx c3 [] [] (λt=>(.normal,λ_=>([(6,vB t)],[]))) ?_ λ_=>?_
 . exact we hc3
 . exact rv ho⟩
instance i196 {p_0 from_1 to_2}:FI ktab 196 (zbU p_0 from_1 to_2) [.val zaq p_0,vI from_1,vI to_2] (λout=>[wB out]):=⟨λout ho=>by
 delta zbU at ho;refine fn λ_ _=>?_;obtain ⟨c3,hc3,ho⟩:=bnd ho;refine run 6 ?_;refine gcx c3 [] [] (λt=>(.normal,λ_=>([(6,vB t)],[]))) ?_ λ_=>?_
 . exact we hc3
 . exact rv ho⟩
instance i197 {x_0 from_1 to_2}:FI ktab 197 (zbh x_0 from_1 to_2) [.val zaq x_0,vI from_1,vI to_2] (λout=>[wB out]):=⟨λout ho=>by
 delta zbh at ho;refine fn λ_ _=>?_;obtain ⟨c5,hc5,ho⟩:=bnd ho;refine run 6 ?_;refine gcx c5 [] [] (λt=>(.normal,λ_=>([(6,vB t)],[]))) ?_ λ_=>?_
 . exact we hc5
 . exact rv ho⟩
instance i198 {x_0 from_1 to_2}:FI ktab 198 (zbi x_0 from_1 to_2) [.val zaq x_0,vI from_1,vI to_2] (λout=>[wB out]):=⟨λout ho=>by
 delta zbi at ho;refine fn λ_ _=>?_;obtain ⟨c5,hc5,ho⟩:=bnd ho;refine run 6 ?_;refine gcx c5 [] [] (λt=>(.normal,λ_=>([(6,vB t)],[]))) ?_ λ_=>?_
 . exact we hc5
 . exact rv ho⟩
instance i183 {x_0 from_1 to_2}:FI ktab 183 (za9 x_0 from_1 to_2) [.val zaq x_0,vI from_1,vI to_2] (λout=>[wB out]):=⟨λout ho=>by
 delta za9 at ho;refine fn λ_ _=>?_;refine run 7 ?_;refine zna (R:=(rFn ktab (zav×Int×Int) Bool (λx=>[.val zaq x.1,.val (zh .i64) x.2.1,.val (zh .i64) x.2.2]) (λy=>[.val zu y]))) (zc:=[.nilfunc,.nilfunc,.nilfunc,.nilfunc,.nilfunc,.nilfunc,.nilfunc]) 1 (λ_=>none) ia' (by kernel_rfl) (by rfl) (λ_ j hj=>(match j,hj with | 0,_=>zyp)) (.n rfl) rfl rfl (.c (.fv (zgJ (λx y hf=>i193.ok _ hf) rfl)) (.c (.fv (zgJ (λx y hf=>i194.ok _ hf) rfl)) (.c (.fv (zgJ (λx y hf=>i195.ok _ hf) rfl)) (.c (.fv (zgJ (λx y hf=>i196.ok _ hf) rfl)) (.c (.fv (zgJ (λx y hf=>i197.ok _ hf) rfl)) (.c (.fv (zgJ (λx y hf=>i198.ok _ hf) rfl)) .n)))))) (by rfl) ?_;refine gal λb1=>?_;refine zga 0 ia' rfl (by rfl) (by decide) (.n rfl) rfl rfl (.t rfl) (.t rfl) (by rfl) ?_;refine zeM (ziK (R:=(rFn ktab (zav×Int×Int) Bool (λx=>[.val zaq x.1,.val (zh .i64) x.2.1,.val (zh .i64) x.2.2]) (λy=>[.val zu y]))) 0 [7] (by decide) (by decide) rfl rfl ⟨rfl,trivial⟩) ?_;obtain ⟨x4,hx4,ho⟩:=bnd ho;refine run 6 ?_;refine zcX ia' hx4 (.n rfl) rfl rfl (.t rfl) (.t rfl) ?_;obtain ⟨y5,hy5,ho⟩:=bnd ho;refine gcv hy5 ?_;exact we ho⟩
instance i184 {m_0}:FI ktab 184 (zdC m_0) [.val z5 m_0] (λout=>[wI out]):=fw
instance i213 {x_0 y_1}:FI ktab 213 (zaT x_0 y_1) [vI x_0,vI y_1] (λout=>[wB out]):=⟨λout ho=>by
 delta zaT at ho;refine fn λ_ _=>?_;obtain ⟨c5,hc5,ho⟩:=bnd ho;refine run 5 ?_;refine gcx c5 [] [] (λt=>(.normal,λ_=>([(4,vB t)],[]))) ?_ λ_=>?_
 . exact we hc5
 . exact rv ho⟩
theorem zdH {data_0 a_1 b_2 out} (ho:zZ data_0 a_1 b_2=some out) (v_0:ze):zgM ktab 207 [.raw v_0,.val (zh .i64) a_1,.val (zh .i64) b_2] [(v_0,.row (zh .i64) (data_0))] [] (λγ=>[(v_0,.row (zh .i64) (out))]):=by
 refine zdN (F:=Tryz.f207) (by rfl) (by rfl) (by rfl) (λC=>?_);delta zZ at ho;obtain ⟨ta,ha,ho⟩:=bnd ho;refine glp ha [0,1,2] [] [0] (λs g=>([(6,vI s.1)],[(v_0,.row (zh .i64) s.2)])) (λb=>(.exit 0,λg=>([],[(v_0,.row (zh .i64) b)]))) [] (λsa ga _ ho=>?_) λgb=>?_
 . refine gct ho (λhc ho=>?_) λhc ho=>?_
   . obtain ⟨tb,hd,ho⟩:=bnd ho;refine glp hd [0,1,2,6] [] [0] (λs g=>([(7,vI s.1)],[(v_0,.row (zh .i64) s.2)])) (λb=>(.exit 2,λg=>([],[(v_0,.row (zh .i64) b)]))) [] (λsb gc _ ho=>?_) λgd=>?_
     . refine run 2 ?_;refine zao [7,12] (by kernel_rfl) ?_;refine wbr ho (λhe ho=>?_) λhe ho=>?_
       . obtain ⟨xa,hg,xb,hh,ho⟩:=zfI ho;refine gcl ho λya hi ho=>?_;refine gct ho (λhf ho=>?_) λhf ho=>?_
         . refine run 3 ?_;refine zao [9,13] (by kernel_rfl) ?_;obtain ⟨xd,hj,xe,hk,ho⟩:=zfI ho;refine run 14 ?_;obtain ⟨xf,hl,xg,hm,ho⟩:=zfI ho;exact lv [] [0] ho
         . exact lv [] [0] ho
       . refine gk ?_;exact lv [] [0] ho
     . exact lv [] [0] ho
   . exact lv [] [0] ho
 . cases ho; exact id (zaF [0] [] (.inl rfl) .n rfl (by decide))
end Go.Ai.TabYtghlaibcihhbcaaGreat
/- Written by program: walks through functions. -/
namespace Go.Ai.TabYtghlaibcihhbcaaGreat
open Go Go.Ai Go.Ai.Sx Go.Proofs
attribute [local irreducible] zm
set_option maxRecDepth 100000
set_option maxHeartbeats 4000000
instance i217 {x_0}:FI ktab 217 (zez x_0) [.val (zh .u64) x_0] (λout=>[wI out]):=⟨λout ho=>by
 delta zez at ho;refine fn λ_ _=>?_;refine gct ho (λhq1 ho=>?_) λhq1 ho=>?_
 . obtain ⟨x2,hx2,ho⟩:=bnd ho;refine gct ho (λhq3 ho=>?_) λhq3 ho=>?_
   . obtain ⟨x4,hx4,ho⟩:=bnd ho;refine gct ho (λhq5 ho=>?_) λhq5 ho=>?_
     . obtain ⟨x6,hx6,x7,hx7,ho⟩:=zfI ho;refine run 16 ?_;refine zg0 (tbl:=zdx) (by kernel_rfl) (by kernel_rfl) hx7 (.n rfl) rfl rfl (.t rfl) ?_;exact we ho
     . obtain ⟨x8,hx8,ho⟩:=bnd ho;refine run 6 ?_;refine zg0 (tbl:=zdx) (by kernel_rfl) (by kernel_rfl) hx8 (.n rfl) rfl rfl (.t rfl) ?_;exact we ho
   . refine gct ho (λhq9 ho=>?_) λhq9 ho=>?_
     . obtain ⟨xa,hk,xb,ha,ho⟩:=zfI ho;refine run 16 ?_;refine zg0 (tbl:=zdx) (by kernel_rfl) (by kernel_rfl) ha (.n rfl) rfl rfl (.t rfl) ?_;exact we ho
     . obtain ⟨xd,hc,ho⟩:=bnd ho;refine run 6 ?_;refine zg0 (tbl:=zdx) (by kernel_rfl) (by kernel_rfl) hc (.n rfl) rfl rfl (.t rfl) ?_;exact we ho
 . refine gct ho (λhd ho=>?_) λhd ho=>?_
   . obtain ⟨xe,hl,ho⟩:=bnd ho;refine gct ho (λhe ho=>?_) λhe ho=>?_
     . obtain ⟨xf,hm,xg,hf,ho⟩:=zfI ho;refine run 16 ?_;refine zg0 (tbl:=zdx) (by kernel_rfl) (by kernel_rfl) hf (.n rfl) rfl rfl (.t rfl) ?_;exact we ho
     . obtain ⟨xh,hg,ho⟩:=bnd ho;refine run 6 ?_;refine zg0 (tbl:=zdx) (by kernel_rfl) (by kernel_rfl) hg (.n rfl) rfl rfl (.t rfl) ?_;exact we ho
   . refine gct ho (λhh ho=>?_) λhh ho=>?_
     . obtain ⟨xi,hn,xj,hi,ho⟩:=zfI ho;refine run 16 ?_;refine zg0 (tbl:=zdx) (by kernel_rfl) (by kernel_rfl) hi (.n rfl) rfl rfl (.t rfl) ?_;exact we ho
     . obtain ⟨xk,hj,ho⟩:=bnd ho;refine run 6 ?_;refine zg0 (tbl:=zdx) (by kernel_rfl) (by kernel_rfl) hj (.n rfl) rfl rfl (.t rfl) ?_;exact we ho⟩
instance i200 {x_0}:FI ktab 200 (zef x_0) [.val (zh .u64) x_0] (λout=>[wI out]):=⟨λout ho=>by
 delta zef at ho;refine fn λ_ _=>?_;refine gk ?_;exact we ho⟩
theorem zeZ {data_0 a_1 b_2 limit_3 out} (ho:za5 data_0 a_1 b_2 limit_3=some out) (v_0:ze):zgM ktab 199 [.raw v_0,.val (zh .i64) a_1,.val (zh .i64) b_2,.val (zh .i64) limit_3] [(v_0,.row (zh .i64) (data_0))] [] (λγ=>[(v_0,.row (zh .i64) (out))]):=by
 refine zdN (F:=Tryz.f199) (by rfl) (by rfl) (by rfl) (λC=>?_);delta za5 at ho;obtain ⟨ta,ha,ho⟩:=bnd ho;refine glp ha [0] [] [0] (λs g=>([(1,vI s.1),(2,vI s.2.1),(3,vI s.2.2.1),(8,vB s.2.2.2.1),(9,vB s.2.2.2.2.1)],[(v_0,.row (zh .i64) s.2.2.2.2.2)])) (λb=>(.ret,λg=>([],[(v_0,.row (zh .i64) b)]))) [] (λsa ga _ ho=>?_) λgb=>?_
 . refine gct ho (λhc ho=>?_) λhc ho=>?_
   . obtain ⟨ya,hd,ho⟩:=bnd ho;refine gcm [0] [] (zdH hd v_0) ?_;intro gc;show zm ..;exact lv [] [0] ho
   . refine gct ho (λhe ho=>?_) λhe ho=>?_
     . refine run 5 ?_;cases ho
     . refine gct ho (λhf ho=>?_) λhf ho=>?_
       . refine run 5 ?_;cases ho
       . refine run 6 ?_;cases ho
 . cases ho; exact id (zaF [0] [] (.inr rfl) .n rfl (by decide))
theorem zgl {x_0 out} (ho:zbw x_0=some out) (v_0:ze):zgM ktab 185 [.raw v_0] [(v_0,.row (zh .i64) (x_0))] [] (λγ=>[(v_0,.row (zh .i64) (out))]):=by
 refine zdN (F:=Tryz.f185) (by rfl) (by rfl) (by rfl) (λC=>?_);delta zbw at ho;refine gcl ho λy1 hy1 ho=>?_;obtain ⟨y2,hy2,ho⟩:=bnd ho;refine gcm [0] [] (zeZ hy2 v_0) ?_;intro g3;show zm ..;cases ho; exact zfH (zaF [0] [] (.inl rfl) .n rfl (by decide))
instance i186 {n_0}:FI ktab 186 (zeS n_0) [vI n_0] (λout=>[.val z5 out]):=fw
theorem zfL {σ τ:Type} {step:σ->(zR)->Option (σ⊕τ)} {yv:ze} {K:σ⊕τ->List ze->Sx.Obj} (hcb:zsY ktab yv (λx=>[.val z5 (x)]) step K) {s_:σ} {p_1 p_2 out} (ho:zbj step s_ p_1 p_2=some out) (γ0:List ze):zgM ktab 181 [.raw yv,.val (zS (zS z9)) p_1,.val (zS z5) p_2] [(yv,K (.inl s_) γ0)] [] (λγ=>[(yv,K (out) (untup (gh γ 0)))]):=by
 refine zdN (F:=Tryz.f181) (by rfl) (by rfl) (by rfl) (λC=>?_);delta zbj at ho;refine gcl ho λy5 hy5 ho=>?_;refine gcl ho λy6 hy6 ho=>?_;obtain ⟨x7,hx7,ho⟩:=bnd ho;refine gal λb8=>?_;refine gfz 1 zb5 x7 0 [4] ?_;refine gnr (zh .i64) ?_;obtain ⟨ta,ha,ho⟩:=bnd ho;refine glp ha [0,1,2,4,25,26] [] [1,0] (λs g=>([(5,.raw (gh g 0)),(27,vI s.2)],[(yv,K (.inl s_) γ0),((gh g 0),.row (zh .i64) s.1)])) (λb=>(.exit 0,λg=>([(5,.raw (gh g 0))],[(yv,K (.inl s_) γ0),((gh g 0),.row (zh .i64) b)]))) [.nilslice] (λsa gb _ ho=>?_) λgc=>?_
 . refine gct ho (λhc ho=>?_) λhc ho=>?_
   . obtain ⟨xa,hj,ho⟩:=bnd ho;refine gal λba=>?_;refine gfz 2 zQ xa 0 [7] ?_;refine gcl ho λyb hk ho=>?_;refine zu7 zvq iz' (.n rfl) rfl rfl (.t rfl) (.t rfl) ?_;refine gcl ho λyc hl ho=>?_;refine gct ho (λhd ho=>?_) λhd ho=>?_
     . refine gcl ho λyd hm ho=>?_;obtain ⟨xb,hn,ho⟩:=bnd ho;refine gap λvb=>?_;exact lv [vb] [1,0] ho
     . exact lv [(gh gb 0)] [0,1] ho
   . exact lv [(gh gb 0)] [0,1] ho
 . obtain ⟨ya,he,ho⟩:=bnd ho;refine gcm [1] [0] (zgl he (gh gc 0)) ?_;intro ge;show zm ..;obtain ⟨tb,hf,ho⟩:=bnd ho;refine gl2 hf ho [0,55,56] [] [0,1] (λs g=>([(57,vI s.1)],[((gh gc 0),.row (zh .i64) ya),(yv,K s.2 (untup (gh g 0)))])) (λb=>(.exit 2,λg=>([],[(yv,K b (untup (gh g 0)))]))) (λb=>(.ret,λg=>([],[(yv,K b (untup (gh g 0)))]))) [.tuple γ0] (λsb gd _ ho=>?_) (λbb ho ga=>?_) λbc ho ga=>?_
   . refine gct ho (λhg ho=>?_) λhg ho=>?_
     . obtain ⟨xd,hp,ho⟩:=bnd ho;refine gcl ho λye hr ho=>?_;obtain ⟨sc,hs55,ho⟩:=bnd ho;refine zeM (zug (K:=K) 1 (zq1 hs55) rfl rfl) ?_;obtain ⟨yf,hh,ho⟩:=bnd ho;refine zqZ [1] [0] (λ_ h=>by cases h) hcb hh rfl rfl rfl (by decide) (.n rfl) rfl rfl rfl (.t rfl) (.c (.t rfl) .n) ?_;intro va;refine gct ho (λhi ho=>?_) λhi ho=>?_
       . exact lv [.tuple va] [0] ho
       . exact lv [.tuple va] [1,0] ho
     . exact lv [.tuple (untup (gh gd 0))] [1] ho
   . cases ho; exact id (zaF [0] [.tuple (untup (gh ga 0))] (.inl rfl) .n rfl (by decide))
   . cases ho; exact id (zaF [0] [.tuple (untup (gh ga 0))] (.inr rfl) .n rfl (by decide))
theorem zf1 {σ τ:Type} {step:σ->(zR)->Option (σ⊕τ)} {yv:ze} {K:σ⊕τ->List ze->Sx.Obj} (hcb:zsY ktab yv (λx=>[.val z5 (x)]) step K) {s_:σ} {p_1 p_2 out} (ho:zbj step s_ p_1 p_2=some out) (γ0:List ze):zgM ktab 181 [.raw yv,.val (zS (zS z9)) p_1,.val (zS z5) p_2] [(yv,K (.inl s_) γ0)] [] (λγ=>[(yv,K (out) γ)]):=
 zq2 (zfL hcb ho γ0)
instance i171 {n_0 m_1}:FI ktab 171 (zcp n_0 m_1) [.val (zS z9) n_0,.val z5 m_1] (λout=>[.val (zp7 181 [] [.val (zS (zS z9)) out.1,.val (zS z5) out.2]) ()]):=⟨λout ho=>by
 delta zcp at ho;refine fn λ_ _=>?_;refine run 4 ?_;refine zam rfl (.n rfl) rfl (e:=.raw .nilfunc) (λz fr h s=>⟨_,rfl,by simp only [TE.ok]; rfl⟩) ?_;refine run 3 ?_;refine zj8 (.n rfl) rfl rfl .n (.c (.t rfl) (.c (.t rfl) .n)) ?_;exact we ho⟩
instance i161 {n_0 m_1 k_2}:FI ktab 161 (zaR n_0 m_1 k_2) [.val (zS z9) n_0,.val z5 m_1,.val z5 k_2] (λout=>[wB out]):=⟨λout ho=>by
 delta zaR at ho;refine fn λ_ _=>?_;refine gal λb1=>?_;refine gcl ho λy2 hy2 ho=>?_;obtain ⟨ta,ha,ho⟩:=bnd ho;refine run 2 ?_;refine zu5 (σ:=Bool) (τ:=Bool) (X:=zR) (ins:=(λx=>[.val z5 x])) (zza (λs g=>[(.ptr b1 0,.box [vB s])]) (λt g=>[(.ptr b1 0,.box [vB t])])) (λ_=>none) (s0:=false) (r:=ta) [] [0] [] rfl (.t rfl) rfl rfl (by decide) (λ_=>rfl) (λyv K hcb γ=>zf1 hcb ha γ) ?_ ?_
 . clear ho ha;intro s8 g9 x3 r13 ho C;refine gal λba=>?_;refine gfz 1 z5 x3 0 [7] ?_;refine zfH (λfr h s=>And.intro rfl (Exists.intro _ (Exists.intro _ (And.intro s (λC=>?_)))));refine gct ho (λhc ho=>?_) λhc ho=>?_
   . refine run 4 ?_;cases ho; exact zea (λfr h s=>And.intro rfl (Exists.intro [] (s.pick [0] trivial rfl (by decide))))
   . cases ho; exact zf9 (λfr h s=>And.intro rfl (Exists.intro [] (s.pick [0] trivial rfl (by decide))))
 . clear ha;rcases ta with bb | bc
   . have ho:=zw4 ho;intro ga;refine gwk [0,1,2,4,5,6,8,9,10] [0] ?_;exact we ho
   . have ho:=zw5 ho;intro gb;refine gwk [0,1,2,4,5,6,8,9,10] [0] ?_;exact rv ho⟩
instance i138 {n_0 l_1}:FI ktab 138 (zbV n_0 l_1) [.val (zS z9) n_0,.val (zd z5) l_1] (λout=>[wB out]):=⟨λout ho=>by
 delta zbV at ho;refine fn λ_ _=>?_;obtain ⟨ta,ha,ho⟩:=bnd ho;refine gl2 ha ho [0,1,7,8] [] [] (λs g=>([(9,vI s)],[])) (λb=>(.exit 0,λg=>([],[]))) (λb=>(.ret,λg=>([(4,vB b)],[]))) [] (λsa gb _ ho=>?_) (λba ho ga=>?_) λbb ho ga=>?_
 . refine gct ho (λhc ho=>?_) λhc ho=>?_
   . obtain ⟨xa,hf,ho⟩:=bnd ho;refine gal λbc=>?_;refine gfz 2 z5 xa 0 [6] ?_;refine gcl ho λya hg ho=>?_;refine wbr ho (λhd ho=>?_) λhd ho=>?_
     . refine gk ?_;exact we ho
     . refine wbr ho (λhe ho=>?_) λhe ho=>?_
       . refine run 5 ?_;exact we ho
       . refine gk ?_;exact we ho
   . exact lv [] [] ho
 . exact we ho
 . exact rv ho⟩
instance i139 {n_0 l_1}:FI ktab 139 (zaU n_0 l_1) [.val (zS z9) n_0,.val (zd z5) l_1] (λout=>[wI out]):=⟨λout ho=>by
 delta zaU at ho;refine fn λ_ _=>?_;obtain ⟨ta,ha,ho⟩:=bnd ho;refine glp ha [0,8,9] [] [] (λs g=>([(5,vI s.1),(10,vI s.2)],[])) (λb=>(.exit 0,λg=>([(5,vI b)],[]))) [] (λs6 g7 _ ho=>?_) λga=>?_
 . refine gct ho (λhq8 ho=>?_) λhq8 ho=>?_
   . obtain ⟨x9,hx9,ho⟩:=bnd ho;refine gal λba=>?_;refine gfz 1 z5 x9 0 [7] ?_;exact we ho
   . exact lv [] [] ho
 . exact we ho⟩
end Go.Ai.TabYtghlaibcihhbcaaGreat