/- Written by program: walks through functions. -/
import Derived.Test.YtppebpagcocogaaGreatU11
set_option linter.unusedSimpArgs false
set_option linter.unusedVariables false
set_option linter.unusedSectionVars false
namespace Go.Ai.TabYtppebpagcocogaaGreat
open Go Go.Ai Go.Ai.Sx Go.Proofs
attribute [local irreducible] zr
set_option maxRecDepth 100000
set_option maxHeartbeats 4000000
instance i57 {x_0 low_1 high_2}:FI ktab 57 (zw x_0 low_1 high_2) [vI x_0,vI low_1,vI high_2] (λout=>[wB out]):=⟨λout ho=>by
 delta zw at ho;refine fn λ_ _=>?_;obtain ⟨c4,hc4,ho⟩:=bnd ho;refine run 5 ?_;refine gcx c4 [] [] (λt=>(.normal,λ_=>([(6,vB t)],[]))) ?_ λ_=>?_
 . exact we hc4
 . exact rv ho⟩
instance i123 {x_0 low_1 high_2}:FI ktab 123 (zN x_0 low_1 high_2) [vI x_0,vI low_1,vI high_2] (λout=>[wB out]):=⟨λout ho=>by
 delta zN at ho;refine fn λ_ _=>?_;obtain ⟨c4,hc4,ho⟩:=bnd ho;refine run 5 ?_;refine gcx c4 [] [] (λt=>(.normal,λ_=>([(6,vB t)],[]))) ?_ λ_=>?_
 . exact we hc4
 . exact rv ho⟩
instance i147 {s_0 f_1}:FI ktab 147 (zal s_0 f_1) [.val (zb zbW) s_0,.val (rFn ktab (zcb) (Bool) (λx=>[.val zbW (x)]) (λy=>[.val zau (y)])) f_1] (λout=>[wI out]):=⟨λout ho=>by
 delta zal at ho;refine fn λ_ _=>?_;obtain ⟨ta,ha,ho⟩:=bnd ho;refine gl2 ha ho [0,1,7] [] [] (λs g=>([(8,vI s)],[])) (λb=>(.exit 0,λg=>([],[]))) (λb=>(.ret,λg=>([(4,vI b)],[]))) [] (λs5 g6 _ ho=>?_) (λba ho ga=>?_) λbb ho ga=>?_
 . refine gct ho (λhq7 ho=>?_) λhq7 ho=>?_
   . obtain ⟨x8,hx8,y9,hy9,ho⟩:=zhr ho;refine gcv hy9 ?_;exact we ho
   . exact lv [] [] ho
 . exact we ho
 . exact rv ho⟩
instance i124 {s_0 f_1}:FI ktab 124 (zad s_0 f_1) [.val (zb zbW) s_0,.val (rFn ktab (zcb) (Bool) (λx=>[.val zbW (x)]) (λy=>[.val zau (y)])) f_1] (λout=>[wB out]):=fw
instance i148 {s_0}:FI ktab 148 (zcI s_0) [.val zco s_0] (λout=>[wB out]):=⟨λout ho=>by
 delta zcI at ho;refine fn λ_ _=>?_;obtain ⟨c4,hc4,ho⟩:=bnd ho;refine run 6 ?_;refine gcx c4 [] [] (λt=>(.normal,λ_=>([(2,vB t)],[]))) ?_ λ_=>?_
 . exact we hc4
 . exact rv ho⟩
instance i149:FI ktab 149 (ze1) [] (λout=>[.val (zjT 7 (zj .i64)) out]):=⟨λout ho=>by
 delta ze1 at ho;refine fn λ_ _=>?_;refine gal λb1=>?_;refine run 3 ?_;refine znt (R:=(zj .i64)) (zc:=[.int .i64 0,.int .i64 0,.int .i64 0,.int .i64 0,.int .i64 0,.int .i64 0,.int .i64 0]) 1 0 ia' (by kernel_rfl) (by rfl) (λ_ j hj=>(match j,hj with | 0,_=>zint)) (.n rfl) rfl rfl (.c (.i (by decide) (by decide)) (.c (.i (by decide) (by decide)) (.c (.i (by decide) (by decide)) (.c (.i (by decide) (by decide)) (.c (.i (by decide) (by decide)) (.c (.i (by decide) (by decide)) .n)))))) (by rfl) ?_;refine zgF 0 ia' rfl (by rfl) (by decide) (.n rfl) rfl rfl (.t rfl) (.t rfl) (by rfl) ?_;refine run 1 ?_;cases ho; exact zd0 (zcT (.inr rfl) (.a 0 ia' rfl rfl .n) (by decide))⟩
instance i126 {n_0}:FI ktab 126 (zeC n_0) [.val zbW n_0] (λout=>[wB out]):=⟨λout ho=>by
 delta zeC at ho;refine fn λ_ _=>?_;obtain ⟨ca,ha,ho⟩:=bnd ho;refine run 7 ?_;refine gcx ca [1] [] (λt=>(.normal,λ_=>([(26,vB t)],[]))) ?_ λ_=>?_
 . exact we ha
 . refine gct ho (λhc ho=>?_) λhc ho=>?_
   . exact we ho
   . obtain ⟨cc,hd,ho⟩:=bnd ho;refine run 3 ?_;refine gcx cc [1] [] (λt=>(.normal,λ_=>([(34,vB t)],[]))) ?_ λ_=>?_
     . exact we hd
     . exact we ho⟩
instance i125 {n_0}:FI ktab 125 (zfo n_0) [.val zbW n_0] (λout=>[wB out]):=fw
instance i150 {s_0 f_1}:FI ktab 150 (zam s_0 f_1) [.val (zb zdS) s_0,.val (rFn ktab (Rail) (Bool) (λx=>[.val zdS (x)]) (λy=>[.val zau (y)])) f_1] (λout=>[wI out]):=⟨λout ho=>by
 delta zam at ho;refine fn λ_ _=>?_;obtain ⟨ta,ha,ho⟩:=bnd ho;refine gl2 ha ho [0,1,7] [] [] (λs g=>([(8,vI s)],[])) (λb=>(.exit 0,λg=>([],[]))) (λb=>(.ret,λg=>([(4,vI b)],[]))) [] (λs5 g6 _ ho=>?_) (λba ho ga=>?_) λbb ho ga=>?_
 . refine gct ho (λhq7 ho=>?_) λhq7 ho=>?_
   . obtain ⟨x8,hx8,y9,hy9,ho⟩:=zhr ho;refine gcv hy9 ?_;exact we ho
   . exact lv [] [] ho
 . exact we ho
 . exact rv ho⟩
instance i127 {s_0 f_1}:FI ktab 127 (zae s_0 f_1) [.val (zb zdS) s_0,.val (rFn ktab (Rail) (Bool) (λx=>[.val zdS (x)]) (λy=>[.val zau (y)])) f_1] (λout=>[wB out]):=fw
instance i187 {n_1}:FI ktab 187 (zah n_1) [.raw .nilslice,vI n_1] (λout=>[.row zco out]):=⟨λout ho=>by
 delta zah at ho;refine fn λ_ _=>?_;refine run 2 ?_;refine zdY (.n rfl) rfl rfl (.nil (R:=zco)) ?_;refine gct ho (λhq1 ho=>?_) λhq1 ho=>?_
 . refine run 1 ?_;cases ho
 . refine run 6 ?_;refine zpD (et:=98) (by kernel_rfl) rfl (.n rfl) rfl rfl (.t rfl) ?_;refine run 1 ?_;refine ze8 (znu zco (n:=11) rfl) ?_;refine gct ho (λhq2 ho=>?_) λhq2 ho=>?_
   . refine run 3 ?_;refine zpD (et:=98) (by kernel_rfl) rfl (.n rfl) rfl rfl (.t rfl) ?_;refine zwK (et:=98) (n:=2) (by kernel_rfl) (by kernel_rfl) (.n rfl) rfl rfl (.t rfl) (.t rfl) ?_;obtain ⟨x3,hx3,ho⟩:=bnd ho;refine run 1 ?_;refine zyY is' iy' iz' (by kernel_rfl) rfl hx3 rfl (.n rfl) rfl rfl (.t rfl) (.t rfl) rfl ?_;intro v4;refine run 1 ?_;refine ze8 (znu zco (n:=23) rfl) ?_;obtain ⟨x5,hx5,ho⟩:=bnd ho;refine run 1 ?_;refine zyZ 0 is' (zwJ hx5) (.n rfl) rfl rfl (.t rfl) rfl (.t rfl) rfl ?_;intro v6;exact we ho
   . refine run 6 ?_;cases ho;refine znh (zcS zco) ?_;exact zd0 (zcT (.inr rfl) (.r 0 rfl rfl .n) (by decide))⟩
instance i175 {slices_0}:FI ktab 175 (zaf slices_0) [.val (zb (zb zco)) slices_0] (λout=>[.row zco out]):=⟨λout ho=>by
 delta zaf at ho;refine fn λ_ _=>?_;refine gnr zco ?_;obtain ⟨t9,ht9,ho⟩:=bnd ho;refine glp ht9 [0,9,10] [] [] (λs g=>([(3,vI s.1),(11,vI s.2)],[])) (λb=>(.exit 0,λg=>([(3,vI b)],[]))) [] (λs4 g5 _ ho=>?_) λgb=>?_
 . refine gct ho (λhq6 ho=>?_) λhq6 ho=>?_
   . obtain ⟨x7,hx7,ho⟩:=bnd ho;refine gct ho (λhq8 ho=>?_) λhq8 ho=>?_
     . refine run 1 ?_;cases ho
     . exact we ho
   . exact lv [] [] ho
 . obtain ⟨ya,ha,ho⟩:=bnd ho;refine run 3 ?_;refine zj1 (i187.ok _ ha) (.r (zj0 zjl (zj0 zjl znk)) .n) rfl (.n rfl) rfl rfl rfl .f (.c (.o .nilr) (.c (.o (.t rfl)) .n)) ?_;intro va;show zr ..;obtain ⟨ta,hc,ho⟩:=bnd ho;refine glp hc [25,26] [] [0] (λs g=>([(6,.raw (gh g 0)),(27,vI s.2)],[((gh g 0),.row zco s.1)])) (λb=>(.exit 2,λg=>([(6,.raw (gh g 0))],[((gh g 0),.row zco b)]))) [va] (λsa ga _ ho=>?_) λgc=>?_
   . refine gct ho (λhd ho=>?_) λhd ho=>?_
     . obtain ⟨xa,he,xb,hf,ho⟩:=zhr ho;refine gap λvb=>?_;exact lv [vb] [0] ho
     . exact lv [(gh ga 0)] [0] ho
   . exact we ho⟩
instance i151 {p_0 r_1}:FI ktab 151 (zdN p_0 r_1) [.val zaP p_0,.val zdS r_1] (λout=>[.row zco out]):=⟨λout ho=>by
 delta zdN at ho;refine fn λ_ _=>?_;refine gnr zco ?_;obtain ⟨x5,hx5,x6,hx6,ho⟩:=zhr ho;refine gcl ho λy7 hy7 ho=>?_;intro v8;exact we ho⟩
instance i176 {n_0}:FI ktab 176 (zeD n_0) [vI n_0] (λout=>[wI out]):=⟨λout ho=>by
 delta zeD at ho;refine fn λ_ _=>?_;refine run 7 ?_;refine zAa (by kernel_rfl) (by kernel_rfl) (.n rfl) rfl rfl (.t rfl) ?_;obtain ⟨x1,hx1,ho⟩:=bnd ho;refine zyH (p:=zoE) rfl (zul hx1) (λ_=>zpC) (.n rfl) rfl rfl rfl .f (zz9 (.t rfl)) ?_;obtain ⟨x2,hx2,ho⟩:=bnd ho;refine zAb (by kernel_rfl) (by kernel_rfl) hx2 (.n rfl) rfl rfl (.t rfl) ?_;obtain ⟨t7,ht7,ho⟩:=bnd ho;refine glp ht7 [0] [] [] (λs g=>([(3,vI s)],[])) (λb=>(.exit 0,λg=>([(3,vI b)],[]))) [] (λs4 g5 _ ho=>?_) λg8=>?_
 . exact we ho
 . obtain ⟨ta,ha,ho⟩:=bnd ho;refine glp ha [0] [] [] (λs g=>([(3,vI s)],[])) (λb=>(.exit 2,λg=>([(3,vI b)],[]))) [] (λsa ga _ ho=>?_) λgb=>?_
   . exact we ho
   . exact we ho⟩
instance i152 {a_0 b_1}:FI ktab 152 (zcJ a_0 b_1) [.val zco a_0,.val zco b_1] (λout=>[wI out]):=fw
instance i129 {p_0 r_1}:FI ktab 129 (zeE p_0 r_1) [.val zaP p_0,.val zdS r_1] (λout=>[wB out]):=⟨λout ho=>by
 delta zeE at ho;refine fn λ_ _=>?_;obtain ⟨c9,hc9,ho⟩:=bnd ho;refine run 8 ?_;refine gcx c9 [2,3] [] (λt=>(.normal,λ_=>([(43,vB t)],[]))) ?_ λ_=>?_
 . exact we hc9
 . refine gct ho (λha ho=>?_) λha ho=>?_
   . exact we ho
   . refine gcl ho λya hh ho=>?_;intro va;show zr ..;obtain ⟨ta,hc,ho⟩:=bnd ho;refine gl2 hc ho [5,47,48] [] [0] (λs g=>([(49,vI s)],[(va,.row zco ya)])) (λb=>(.exit 0,λg=>([],[]))) (λb=>(.ret,λg=>([(4,vB b)],[]))) [] (λsa gb _ ho=>?_) (λba ho ga=>?_) λbb ho ga=>?_
     . refine gct ho (λhd ho=>?_) λhd ho=>?_
       . obtain ⟨xa,hi,ho⟩:=bnd ho;refine gal λbc=>?_;refine gfz 2 zco xa 0 [7] ?_;refine run 2 ?_;refine zar [11] (by kernel_rfl) ?_;refine gcl ho λyb hj ho=>?_;refine wbr ho (λhe ho=>?_) λhe ho=>?_
         . refine gk ?_;exact we ho
         . refine wbr ho (λhf ho=>?_) λhf ho=>?_
           . obtain ⟨xb,hk,ho⟩:=bnd ho;refine gcl ho λyc hl ho=>?_;refine gcl ho λyd hm ho=>?_;refine gct ho (λhg ho=>?_) λhg ho=>?_
             . exact we ho
             . exact lv [] [0] ho
           . refine gk ?_;exact lv [] [0] ho
       . exact lv [] [] ho
     . exact we ho
     . exact rv ho⟩
instance i128 {r_0 p_1}:FI ktab 128 (zd2 r_0 p_1) [.val zdS r_0,.val (z5 zaP) p_1] (λout=>[wB out]):=fw
instance i130 {p_0 e_1}:FI ktab 130 (zcp p_0 e_1) [.val zaP p_0,.val zP e_1] (λout=>[wI out]):=fw
instance i98 {p_0}:FI ktab 98 (zdj p_0) [.val zaP p_0] (λout=>[wI out]):=⟨λout ho=>by
 delta zdj at ho;refine fn λ_ _=>?_;obtain ⟨c4,hc4,ho⟩:=bnd ho;refine run 7 ?_;refine gcx c4 [1] [] (λt=>(.normal,λ_=>([(19,vB t)],[]))) ?_ λ_=>?_
 . exact we hc4
 . refine gct ho (λhq8 ho=>?_) λhq8 ho=>?_
   . exact we ho
   . obtain ⟨ca,hd,ho⟩:=bnd ho;refine run 3 ?_;refine gcx ca [1] [] (λt=>(.normal,λ_=>([(28,vB t)],[]))) ?_ λ_=>?_
     . have ho:=hd;obtain ⟨ya,he,ho⟩:=bnd ho;refine run 3 ?_;refine zj1 (i124.ok _ he) (.v zjZ .n) rfl (.n rfl) rfl rfl rfl .f (.c (.o (.t rfl)) (.c (.o (.fv (zhZ (λx y hf=>i125.ok _ hf) rfl))) .n)) ?_;show zr ..;refine wbr ho (λha ho=>?_) λha ho=>?_
       . exact we ho
       . refine run 3 ?_;refine zi4 (X:=Rail) (Y:=Bool) (λx=>[.val zdS x]) (λy=>[.val zau y]) (f:=(λx=>zd2 x p_0)) (λx y hf=>i128.ok _ hf) rfl (.g rfl rfl (gf0 ha)) rfl rfl .n (.c (.t rfl) .n) ?_;exact we ho
     . refine gct ho (λhg ho=>?_) λhg ho=>?_
       . exact we ho
       . refine run 3 ?_;refine zrU zau zwW rfl (.n rfl) rfl rfl ?_;intro ba;obtain ⟨ta,hh,ho⟩:=bnd ho;refine gl2 hh ho [1,31,32] [] [0] (λs g=>([(3,.raw (.map ba)),(33,vI s.1)],[(.map ba,.mp zP zau s.2)])) (λb=>(.exit 0,λg=>([(3,.raw (.map ba))],[(.map ba,.mp zP zau b)]))) (λb=>(.ret,λg=>([(2,vI b)],[]))) [] (λsa gc _ ho=>?_) (λbb ho ga=>?_) λbc ho ga=>?_
         . refine gct ho (λhi ho=>?_) λhi ho=>?_
           . obtain ⟨xa,hp,ho⟩:=bnd ho;refine gal λbd=>?_;refine gfz 2 zbW xa 0 [5] ?_;obtain ⟨tb,hj,ho⟩:=bnd ho;refine gl2 hj ho [1,3,4,31,32,33,39,40] [] [0] (λs g=>([(41,vI s.1)],[(.map ba,.mp zP zau s.2)])) (λb=>(.exit 2,λg=>([],[(.map ba,.mp zP zau b)]))) (λb=>(.ret,λg=>([(2,vI b.1)],[]))) [] (λsb gd _ ho=>?_) (λbe ho gb=>?_) λbf ho gb=>?_
             . refine gct ho (λhk ho=>?_) λhk ho=>?_
               . obtain ⟨xb,hr,ho⟩:=bnd ho;refine gal λbg=>?_;refine gfz 1 zP xb 0 [7] ?_;refine gcl ho λyb hs ho=>?_;refine wbr ho (λhc ho=>?_) λhc ho=>?_
                 . refine gk ?_;exact we ho
                 . refine run 4 ?_;refine zyV 0 rfl zwW iz' rfl (.g rfl rfl (gf0 hc)) rfl rfl (.t rfl) (.t rfl) ?_;refine wbr ho (λhl ho=>?_) λhl ho=>?_
                   . refine gk ?_;exact we ho
                   . refine gcl ho λyc ht ho=>?_;refine gct ho (λhm ho=>?_) λhm ho=>?_
                     . exact we ho
                     . refine run 4 ?_;refine zpA 0 zwW (.inl rfl) rfl (.n rfl) rfl (.t rfl) (.t rfl) .b rfl ?_;exact lv [] [0] ho
               . exact lv [] [0] ho
             . exact lv [] [0] ho
             . cases ho; exact id (lf [] [])
           . exact lv [] [0] ho
         . obtain ⟨xd,hn,ho⟩:=bnd ho;refine run 4 ?_;refine zy0 (st:=199) (kt:=123) (et:=4) 0 rfl (by kernel_rfl) hn rfl rfl (.n rfl) rfl rfl (.t rfl) ?_;exact we ho
         . exact rv ho⟩
instance i99 {l_0}:FI ktab 99 (zaX l_0) [.val zav l_0] (λout=>[.val (zjT 2 zcx) out]):=⟨λout ho=>by
 delta zaX at ho;refine fn λ_ _=>?_;refine gal λb1=>?_;refine run 7 ?_;refine zpx (R:=zcx) (zc:=[.nilslice,.nilslice,.nilslice,.nilslice,.nilslice,.nilslice]) ia' (by kernel_rfl) (by rfl) (.n rfl) rfl rfl (.c (.t rfl) (.c (.t rfl) .n)) (by rfl) ?_;refine zgF 0 ia' rfl (by rfl) (by decide) (.n rfl) rfl rfl (.t rfl) (.t rfl) (by rfl) ?_;refine run 1 ?_;cases ho; exact zd0 (zcT (.inr rfl) (.a 0 ia' rfl rfl .n) (by decide))⟩
instance i153 {p_0}:FI ktab 153 (zdO p_0) [.val zaP p_0] (λout=>[.val (zfH z6) out.1,wB out.2]):=⟨λout ho=>by
 delta zdO at ho;refine fn λ_ _=>?_;refine run 3 ?_;refine zaj rfl (.n rfl) rfl (e:=.val (zfH z6) none) (λz fr h s=>⟨_,rfl,zc7⟩) ?_;refine gcl ho λy1 hy1 ho=>?_;refine gct ho (λhq2 ho=>?_) λhq2 ho=>?_
 . refine run 2 ?_;refine zaj rfl (.n rfl) rfl (e:=.val (zfH z6) none) (λz fr h s=>⟨_,rfl,zc7⟩) ?_;exact we ho
 . refine run 4 ?_;refine zrU (zj .i64) zwX rfl (.n rfl) rfl rfl ?_;intro b3;refine ze8 (zrV (n:=18) rfl) ?_;refine ziy (R:=ziG) zAo (.n rfl) rfl rfl rfl (.p (.t rfl) rfl (.z (λ_=>zns) (.p (.t rfl) rfl (.n rfl)))) ?_;refine xbo λb4=>?_;refine ze8 (zen (q:=2) 0 rfl rfl rfl) ?_;refine ze8 (zcS (zj .i64)) ?_;refine ze8 (zqz (q:=3) 1 rfl rfl rfl) ?_;obtain ⟨ta,ha,ho⟩:=bnd ho;refine glp ha [1,4,22,23] [2] [1,0,2] (λs g=>([(24,vI s.1)],[(.ptr b4 0,.box [.val (zb zbW) p_0.1,.val (zb zdS) p_0.2.1,.raw (gh g 0),.raw (.map b3)]),((gh g 0),.row (zj .i64) s.2)])) (λb=>(.exit 0,λg=>([],[(.ptr b4 0,.box [.val (zb zbW) p_0.1,.val (zb zdS) p_0.2.1,.raw (gh g 0),.raw (.map b3)]),((gh g 0),.row (zj .i64) b)]))) [.nilslice] (λsa ga _ ho=>?_) λgb=>?_
   . refine gct ho (λhc ho=>?_) λhc ho=>?_
     . obtain ⟨xa,hj,ho⟩:=bnd ho;refine gal λba=>?_;refine gfz 1 zdS xa 0 [6] ?_;refine gcl ho λya hk ho=>?_;intro va;show zr ..;obtain ⟨tc,hd,ho⟩:=bnd ho;refine glp hd [1,4,7,22,23,24] [1,2,3] [0,1,2,3] (λs g=>([(8,vI s.1),(9,vI s.2)],[(va,.row zco ya)])) (λb=>(.exit 2,λg=>([(8,vI b)],[]))) [] (λsb gc _ ho=>?_) λgd=>?_
       . refine gct ho (λhe ho=>?_) λhe ho=>?_
         . refine run 3 ?_;refine zar [5,9] (by kernel_rfl) ?_;obtain ⟨xe,hl,xf,hm,ho⟩:=zhr ho;refine gcl ho λyb hn ho=>?_;exact lv [] [0,1,2,3] ho
         . exact lv [] [1,2,3] ho
       . obtain ⟨xg,hp,ho⟩:=bnd ho;refine gap λvb=>?_;refine run 2 ?_;refine zb4 1 0 (U27).sz rfl rfl (by exact Nat.le_of_ble_eq_true rfl) (.n rfl) rfl rfl (.t rfl) (.t rfl) (by rfl) ?_;exact lv [vb] [1,0,2] ho
     . exact lv [(gh ga 0)] [0,1,2] ho
   . obtain ⟨tb,hf,ho⟩:=bnd ho;refine glp hf [4,61,62] [0,1] [2,0,1] (λs g=>([(63,vI s.1)],[(.map b3,.mp zP (zj .i64) s.2)])) (λb=>(.exit 4,λg=>([],[(.map b3,.mp zP (zj .i64) b)]))) [] (λsc ge _ ho=>?_) λgf=>?_
     . refine gct ho (λhg ho=>?_) λhg ho=>?_
       . obtain ⟨xb,hr,ho⟩:=bnd ho;refine gal λbb=>?_;refine gfz 1 zbW xb 0 [11] ?_;obtain ⟨td,hh,ho⟩:=bnd ho;refine glp hh [4,61,62,63,68,69] [1,2] [0,1,2] (λs g=>([(70,vI s.1)],[(.map b3,.mp zP (zj .i64) s.2)])) (λb=>(.exit 6,λg=>([],[(.map b3,.mp zP (zj .i64) b)]))) [] (λsd gg _ ho=>?_) λgi=>?_
         . refine gct ho (λhi ho=>?_) λhi ho=>?_
           . obtain ⟨xd,hs,ho⟩:=bnd ho;refine gal λbc=>?_;refine gfz 2 zP xd 0 [13] ?_;refine run 1 ?_;refine zar [3] (by kernel_rfl) ?_;refine run 6 ?_;refine zpA 0 zwX (.inl rfl) rfl (.n rfl) rfl (.t rfl) (.t rfl) (.t rfl) rfl ?_;exact lv [] [0,1,2] ho
           . exact lv [] [0,1,2] ho
         . exact lv [] [0,1,2] ho
       . exact lv [] [0,1,2] ho
     . refine run 6 ?_;cases ho;refine znh (zoD 0 0 (q:=3) [] rfl rfl rfl rfl (by rfl) trivial) ?_;refine znh (zcV 1 0 (q:=2) [] rfl rfl rfl rfl (by rfl) trivial) ?_;refine znh (ze9 (R:=z6) (a:=((p_0.1,p_0.2.1,()),ta,tb,())) 0 [4,83,2] (zq (zq (zt rfl) (zq (zt rfl) za7 rfl) rfl) (zq (zt rfl) (zq (zt rfl) za7 rfl) rfl) rfl) rfl rfl ⟨rfl,rfl,rfl,trivial⟩) ?_;refine znh (zma (n:=2) rfl) ?_;exact zd0 (zcT (.inr rfl) (.v rfl (.v rfl .n)) (by decide))⟩
instance i171 {n_0 m_1}:FI ktab 171 (zbq n_0 m_1) [.val (z5 z6) n_0,.val zW m_1] (λout=>[wB out]):=fw
instance i202 {m_0}:FI ktab 202 (zd3 m_0) [.val zW m_0] (λout=>[.val zP out]):=fw
instance i209 {p_0 from_1 to_2}:FI ktab 209 (zfp p_0 from_1 to_2) [.val zak p_0,vI from_1,vI to_2] (λout=>[wB out]):=fw
instance i210 {p_0 from_1 to_2}:FI ktab 210 (zeF p_0 from_1 to_2) [.val zak p_0,vI from_1,vI to_2] (λout=>[wB out]):=fw
instance i211 {p_0 from_1 to_2}:FI ktab 211 (zbI p_0 from_1 to_2) [.val zak p_0,vI from_1,vI to_2] (λout=>[wB out]):=⟨λout ho=>by
 delta zbI at ho;refine fn λ_ _=>?_;obtain ⟨c4,hc4,ho⟩:=bnd ho;refine run 6 ?_;refine gcx c4 [] [] (λt=>(.normal,λ_=>([(6,vB t)],[]))) ?_ λ_=>?_
 . exact we hc4
 . exact rv ho⟩
instance i212 {p_0 from_1 to_2}:FI ktab 212 (zb5 p_0 from_1 to_2) [.val zak p_0,vI from_1,vI to_2] (λout=>[wB out]):=⟨λout ho=>by
 delta zb5 at ho;refine fn λ_ _=>?_;obtain ⟨c4,hc4,ho⟩:=bnd ho;refine run 6 ?_;refine gcx c4 [] [] (λt=>(.normal,λ_=>([(6,vB t)],[]))) ?_ λ_=>?_
 . exact we hc4
 . exact rv ho⟩
instance i213 {x_0 from_1 to_2}:FI ktab 213 (zbi x_0 from_1 to_2) [.val zak x_0,vI from_1,vI to_2] (λout=>[wB out]):=⟨λout ho=>by
 delta zbi at ho;refine fn λ_ _=>?_;obtain ⟨c5,hc5,ho⟩:=bnd ho;refine run 6 ?_;refine gcx c5 [] [] (λt=>(.normal,λ_=>([(6,vB t)],[]))) ?_ λ_=>?_
 . exact we hc5
 . exact rv ho⟩
instance i214 {x_0 from_1 to_2}:FI ktab 214 (zbj x_0 from_1 to_2) [.val zak x_0,vI from_1,vI to_2] (λout=>[wB out]):=⟨λout ho=>by
 delta zbj at ho;refine fn λ_ _=>?_;obtain ⟨c5,hc5,ho⟩:=bnd ho;refine run 6 ?_;refine gcx c5 [] [] (λt=>(.normal,λ_=>([(6,vB t)],[]))) ?_ λ_=>?_
 . exact we hc5
 . exact rv ho⟩
instance i203 {x_0 from_1 to_2}:FI ktab 203 (za8 x_0 from_1 to_2) [.val zak x_0,vI from_1,vI to_2] (λout=>[wB out]):=⟨λout ho=>by
 delta za8 at ho;refine fn λ_ _=>?_;refine run 7 ?_;refine znt (R:=(rFn ktab (zao×Int×Int) Bool (λx=>[.val zak x.1,.val (zj .i64) x.2.1,.val (zj .i64) x.2.2]) (λy=>[.val zau y]))) (zc:=[.nilfunc,.nilfunc,.nilfunc,.nilfunc,.nilfunc,.nilfunc,.nilfunc]) 1 (λ_=>none) ia' (by kernel_rfl) (by rfl) (λ_ j hj=>(match j,hj with | 0,_=>zzZ)) (.n rfl) rfl rfl (.c (.fv (zhZ (λx y hf=>i209.ok _ hf) rfl)) (.c (.fv (zhZ (λx y hf=>i210.ok _ hf) rfl)) (.c (.fv (zhZ (λx y hf=>i211.ok _ hf) rfl)) (.c (.fv (zhZ (λx y hf=>i212.ok _ hf) rfl)) (.c (.fv (zhZ (λx y hf=>i213.ok _ hf) rfl)) (.c (.fv (zhZ (λx y hf=>i214.ok _ hf) rfl)) .n)))))) (by rfl) ?_;refine gal λb1=>?_;refine zgF 0 ia' rfl (by rfl) (by decide) (.n rfl) rfl rfl (.t rfl) (.t rfl) (by rfl) ?_;refine ze8 (zlo (R:=(rFn ktab (zao×Int×Int) Bool (λx=>[.val zak x.1,.val (zj .i64) x.2.1,.val (zj .i64) x.2.2]) (λy=>[.val zau y]))) 0 [7] (by decide) (by decide) rfl rfl ⟨rfl,trivial⟩) ?_;obtain ⟨x4,hx4,ho⟩:=bnd ho;refine run 6 ?_;refine zbT ia' hx4 (.n rfl) rfl rfl (.t rfl) (.t rfl) ?_;obtain ⟨y5,hy5,ho⟩:=bnd ho;refine gcv hy5 ?_;exact we ho⟩
instance i204 {m_0}:FI ktab 204 (zdw m_0) [.val zW m_0] (λout=>[wI out]):=fw
instance i120 {x_0}:FI ktab 120 (zda x_0) [vI x_0] (λout=>[wB out]):=fw
instance i192 {x_0 y_1}:FI ktab 192 (zaQ x_0 y_1) [vI x_0,vI y_1] (λout=>[wB out]):=⟨λout ho=>by
 delta zaQ at ho;refine fn λ_ _=>?_;obtain ⟨c5,hc5,ho⟩:=bnd ho;refine run 5 ?_;refine gcx c5 [] [] (λt=>(.normal,λ_=>([(4,vB t)],[]))) ?_ λ_=>?_
 . exact we hc5
 . exact rv ho⟩
theorem zdC {data_0 a_1 b_2 out} (ho:zT data_0 a_1 b_2=some out) (v_0:ze):zjn ktab 217 [.raw v_0,.val (zj .i64) a_1,.val (zj .i64) b_2] [(v_0,.row (zj .i64) (data_0))] [] (λγ=>[(v_0,.row (zj .i64) (out))]):=by
 refine zho (F:=Tryz.f217) (by rfl) (by rfl) (by rfl) (λC=>?_);delta zT at ho;obtain ⟨ta,ha,ho⟩:=bnd ho;refine glp ha [0,1,2] [] [0] (λs g=>([(6,vI s.1)],[(v_0,.row (zj .i64) s.2)])) (λb=>(.exit 0,λg=>([],[(v_0,.row (zj .i64) b)]))) [] (λsa ga _ ho=>?_) λgb=>?_
 . refine gct ho (λhc ho=>?_) λhc ho=>?_
   . obtain ⟨tb,hd,ho⟩:=bnd ho;refine glp hd [0,1,2,6] [] [0] (λs g=>([(7,vI s.1)],[(v_0,.row (zj .i64) s.2)])) (λb=>(.exit 2,λg=>([],[(v_0,.row (zj .i64) b)]))) [] (λsb gc _ ho=>?_) λgd=>?_
     . refine run 2 ?_;refine zar [7,12] (by kernel_rfl) ?_;refine wbr ho (λhe ho=>?_) λhe ho=>?_
       . obtain ⟨xa,hg,xb,hh,ho⟩:=zhr ho;refine gcl ho λya hi ho=>?_;refine gct ho (λhf ho=>?_) λhf ho=>?_
         . refine run 3 ?_;refine zar [9,13] (by kernel_rfl) ?_;obtain ⟨xd,hj,xe,hk,ho⟩:=zhr ho;refine run 14 ?_;obtain ⟨xf,hl,xg,hm,ho⟩:=zhr ho;exact lv [] [0] ho
         . exact lv [] [0] ho
       . refine gk ?_;exact lv [] [0] ho
     . exact lv [] [0] ho
   . exact lv [] [0] ho
 . cases ho; exact id (zdq [0] [] (.inl rfl) .n rfl (by decide))
end Go.Ai.TabYtppebpagcocogaaGreat
/- Written by program: walks through functions. -/
namespace Go.Ai.TabYtppebpagcocogaaGreat
open Go Go.Ai Go.Ai.Sx Go.Proofs
attribute [local irreducible] zr
set_option maxRecDepth 100000
set_option maxHeartbeats 4000000
instance i226 {x_0}:FI ktab 226 (zeo x_0) [.val (zj .u64) x_0] (λout=>[wI out]):=⟨λout ho=>by
 delta zeo at ho;refine fn λ_ _=>?_;refine gct ho (λhq1 ho=>?_) λhq1 ho=>?_
 . obtain ⟨x2,hx2,ho⟩:=bnd ho;refine gct ho (λhq3 ho=>?_) λhq3 ho=>?_
   . obtain ⟨x4,hx4,ho⟩:=bnd ho;refine gct ho (λhq5 ho=>?_) λhq5 ho=>?_
     . obtain ⟨x6,hx6,x7,hx7,ho⟩:=zhr ho;refine run 16 ?_;refine zgH (tbl:=zdr) (by kernel_rfl) (by kernel_rfl) hx7 (.n rfl) rfl rfl (.t rfl) ?_;exact we ho
     . obtain ⟨x8,hx8,ho⟩:=bnd ho;refine run 6 ?_;refine zgH (tbl:=zdr) (by kernel_rfl) (by kernel_rfl) hx8 (.n rfl) rfl rfl (.t rfl) ?_;exact we ho
   . refine gct ho (λhq9 ho=>?_) λhq9 ho=>?_
     . obtain ⟨xa,hk,xb,ha,ho⟩:=zhr ho;refine run 16 ?_;refine zgH (tbl:=zdr) (by kernel_rfl) (by kernel_rfl) ha (.n rfl) rfl rfl (.t rfl) ?_;exact we ho
     . obtain ⟨xd,hc,ho⟩:=bnd ho;refine run 6 ?_;refine zgH (tbl:=zdr) (by kernel_rfl) (by kernel_rfl) hc (.n rfl) rfl rfl (.t rfl) ?_;exact we ho
 . refine gct ho (λhd ho=>?_) λhd ho=>?_
   . obtain ⟨xe,hl,ho⟩:=bnd ho;refine gct ho (λhe ho=>?_) λhe ho=>?_
     . obtain ⟨xf,hm,xg,hf,ho⟩:=zhr ho;refine run 16 ?_;refine zgH (tbl:=zdr) (by kernel_rfl) (by kernel_rfl) hf (.n rfl) rfl rfl (.t rfl) ?_;exact we ho
     . obtain ⟨xh,hg,ho⟩:=bnd ho;refine run 6 ?_;refine zgH (tbl:=zdr) (by kernel_rfl) (by kernel_rfl) hg (.n rfl) rfl rfl (.t rfl) ?_;exact we ho
   . refine gct ho (λhh ho=>?_) λhh ho=>?_
     . obtain ⟨xi,hn,xj,hi,ho⟩:=zhr ho;refine run 16 ?_;refine zgH (tbl:=zdr) (by kernel_rfl) (by kernel_rfl) hi (.n rfl) rfl rfl (.t rfl) ?_;exact we ho
     . obtain ⟨xk,hj,ho⟩:=bnd ho;refine run 6 ?_;refine zgH (tbl:=zdr) (by kernel_rfl) (by kernel_rfl) hj (.n rfl) rfl rfl (.t rfl) ?_;exact we ho⟩
instance i216 {x_0}:FI ktab 216 (zd4 x_0) [.val (zj .u64) x_0] (λout=>[wI out]):=⟨λout ho=>by
 delta zd4 at ho;refine fn λ_ _=>?_;refine gk ?_;exact we ho⟩
theorem zeQ {data_0 a_1 b_2 limit_3 out} (ho:za3 data_0 a_1 b_2 limit_3=some out) (v_0:ze):zjn ktab 215 [.raw v_0,.val (zj .i64) a_1,.val (zj .i64) b_2,.val (zj .i64) limit_3] [(v_0,.row (zj .i64) (data_0))] [] (λγ=>[(v_0,.row (zj .i64) (out))]):=by
 refine zho (F:=Tryz.f215) (by rfl) (by rfl) (by rfl) (λC=>?_);delta za3 at ho;obtain ⟨ta,ha,ho⟩:=bnd ho;refine glp ha [0] [] [0] (λs g=>([(1,vI s.1),(2,vI s.2.1),(3,vI s.2.2.1),(8,vB s.2.2.2.1),(9,vB s.2.2.2.2.1)],[(v_0,.row (zj .i64) s.2.2.2.2.2)])) (λb=>(.ret,λg=>([],[(v_0,.row (zj .i64) b)]))) [] (λsa ga _ ho=>?_) λgb=>?_
 . refine gct ho (λhc ho=>?_) λhc ho=>?_
   . obtain ⟨ya,hd,ho⟩:=bnd ho;refine gcm [0] [] (zdC hd v_0) ?_;intro gc;show zr ..;exact lv [] [0] ho
   . refine gct ho (λhe ho=>?_) λhe ho=>?_
     . refine run 5 ?_;cases ho
     . refine gct ho (λhf ho=>?_) λhf ho=>?_
       . refine run 5 ?_;cases ho
       . refine run 6 ?_;cases ho
 . cases ho; exact id (zdq [0] [] (.inr rfl) .n rfl (by decide))
theorem zfZ {x_0 out} (ho:zbJ x_0=some out) (v_0:ze):zjn ktab 205 [.raw v_0] [(v_0,.row (zj .i64) (x_0))] [] (λγ=>[(v_0,.row (zj .i64) (out))]):=by
 refine zho (F:=Tryz.f205) (by rfl) (by rfl) (by rfl) (λC=>?_);delta zbJ at ho;refine gcl ho λy1 hy1 ho=>?_;obtain ⟨y2,hy2,ho⟩:=bnd ho;refine gcm [0] [] (zeQ hy2 v_0) ?_;intro g3;show zr ..;cases ho; exact ziw (zdq [0] [] (.inl rfl) .n rfl (by decide))
instance i206 {n_0}:FI ktab 206 (zeG n_0) [vI n_0] (λout=>[.val zW out]):=fw
theorem zfw {σ τ:Type} {step:σ->(zM)->Option (σ⊕τ)} {yv:ze} {K:σ⊕τ->List ze->Sx.Obj} (hcb:zua ktab yv (λx=>[.val zW (x)]) step K) {s_:σ} {p_1 p_2 out} (ho:zbk step s_ p_1 p_2=some out) (γ0:List ze):zjn ktab 201 [.raw yv,.val (z5 (z5 z6)) p_1,.val (z5 zW) p_2] [(yv,K (.inl s_) γ0)] [] (λγ=>[(yv,K (out) (untup (gh γ 0)))]):=by
 refine zho (F:=Tryz.f201) (by rfl) (by rfl) (by rfl) (λC=>?_);delta zbk at ho;refine gcl ho λy5 hy5 ho=>?_;refine gcl ho λy6 hy6 ho=>?_;obtain ⟨x7,hx7,ho⟩:=bnd ho;refine gal λb8=>?_;refine gfz 1 zbW x7 0 [4] ?_;refine gnr (zj .i64) ?_;obtain ⟨ta,ha,ho⟩:=bnd ho;refine glp ha [0,1,2,4,25,26] [] [1,0] (λs g=>([(5,.raw (gh g 0)),(27,vI s.2)],[(yv,K (.inl s_) γ0),((gh g 0),.row (zj .i64) s.1)])) (λb=>(.exit 0,λg=>([(5,.raw (gh g 0))],[(yv,K (.inl s_) γ0),((gh g 0),.row (zj .i64) b)]))) [.nilslice] (λsa gb _ ho=>?_) λgc=>?_
 . refine gct ho (λhc ho=>?_) λhc ho=>?_
   . obtain ⟨xa,hj,ho⟩:=bnd ho;refine gal λba=>?_;refine gfz 2 zP xa 0 [7] ?_;refine gcl ho λyb hk ho=>?_;refine zwH zwX iz' (.n rfl) rfl rfl (.t rfl) (.t rfl) ?_;refine gcl ho λyc hl ho=>?_;refine gct ho (λhd ho=>?_) λhd ho=>?_
     . refine gcl ho λyd hm ho=>?_;obtain ⟨xb,hn,ho⟩:=bnd ho;refine gap λvb=>?_;exact lv [vb] [1,0] ho
     . exact lv [(gh gb 0)] [0,1] ho
   . exact lv [(gh gb 0)] [0,1] ho
 . obtain ⟨ya,he,ho⟩:=bnd ho;refine gcm [1] [0] (zfZ he (gh gc 0)) ?_;intro ge;show zr ..;obtain ⟨tb,hf,ho⟩:=bnd ho;refine gl2 hf ho [0,55,56] [] [0,1] (λs g=>([(57,vI s.1)],[((gh gc 0),.row (zj .i64) ya),(yv,K s.2 (untup (gh g 0)))])) (λb=>(.exit 2,λg=>([],[(yv,K b (untup (gh g 0)))]))) (λb=>(.ret,λg=>([],[(yv,K b (untup (gh g 0)))]))) [.tuple γ0] (λsb gd _ ho=>?_) (λbb ho ga=>?_) λbc ho ga=>?_
   . refine gct ho (λhg ho=>?_) λhg ho=>?_
     . obtain ⟨xd,hp,ho⟩:=bnd ho;refine gcl ho λye hr ho=>?_;obtain ⟨sc,hs55,ho⟩:=bnd ho;refine ze8 (zvC (K:=K) 1 (zrN hs55) rfl rfl) ?_;obtain ⟨yf,hh,ho⟩:=bnd ho;refine zrL [1] [0] (λ_ h=>by cases h) hcb hh rfl rfl rfl (by decide) (.n rfl) rfl rfl rfl (.t rfl) (.c (.t rfl) .n) ?_;intro va;refine gct ho (λhi ho=>?_) λhi ho=>?_
       . exact lv [.tuple va] [0] ho
       . exact lv [.tuple va] [1,0] ho
     . exact lv [.tuple (untup (gh gd 0))] [1] ho
   . cases ho; exact id (zdq [0] [.tuple (untup (gh ga 0))] (.inl rfl) .n rfl (by decide))
   . cases ho; exact id (zdq [0] [.tuple (untup (gh ga 0))] (.inr rfl) .n rfl (by decide))
theorem zfI {σ τ:Type} {step:σ->(zM)->Option (σ⊕τ)} {yv:ze} {K:σ⊕τ->List ze->Sx.Obj} (hcb:zua ktab yv (λx=>[.val zW (x)]) step K) {s_:σ} {p_1 p_2 out} (ho:zbk step s_ p_1 p_2=some out) (γ0:List ze):zjn ktab 201 [.raw yv,.val (z5 (z5 z6)) p_1,.val (z5 zW) p_2] [(yv,K (.inl s_) γ0)] [] (λγ=>[(yv,K (out) γ)]):=
 zrO (zfw hcb ho γ0)
instance i189 {n_0 m_1}:FI ktab 189 (zcs n_0 m_1) [.val (z5 z6) n_0,.val zW m_1] (λout=>[.val (zoz 201 [] [.val (z5 (z5 z6)) out.1,.val (z5 zW) out.2]) ()]):=⟨λout ho=>by
 delta zcs at ho;refine fn λ_ _=>?_;refine run 4 ?_;refine zaj rfl (.n rfl) rfl (e:=.raw .nilfunc) (λz fr h s=>⟨_,rfl,by simp only [TE.ok]; rfl⟩) ?_;refine run 3 ?_;refine zl6 (.n rfl) rfl rfl .n (.c (.t rfl) (.c (.t rfl) .n)) ?_;exact we ho⟩
instance i177 {n_0 m_1 k_2}:FI ktab 177 (zaJ n_0 m_1 k_2) [.val (z5 z6) n_0,.val zW m_1,.val zW k_2] (λout=>[wB out]):=⟨λout ho=>by
 delta zaJ at ho;refine fn λ_ _=>?_;refine gal λb1=>?_;refine gcl ho λy2 hy2 ho=>?_;obtain ⟨ta,ha,ho⟩:=bnd ho;refine run 2 ?_;refine zwF (σ:=Bool) (τ:=Bool) (X:=zM) (ins:=(λx=>[.val zW x])) (zA4 (λs g=>[(.ptr b1 0,.box [vB s])]) (λt g=>[(.ptr b1 0,.box [vB t])])) (λ_=>none) (s0:=false) (r:=ta) [] [0] [] rfl (.t rfl) rfl rfl (by decide) (λ_=>rfl) (λyv K hcb γ=>zfI hcb ha γ) ?_ ?_
 . clear ho ha;intro s8 g9 x3 r13 ho C;refine gal λba=>?_;refine gfz 1 zW x3 0 [7] ?_;refine ziw (λfr h s=>And.intro rfl (Exists.intro _ (Exists.intro _ (And.intro s (λC=>?_)))));refine gct ho (λhc ho=>?_) λhc ho=>?_
   . refine run 4 ?_;cases ho; exact zd0 (λfr h s=>And.intro rfl (Exists.intro [] (s.pick [0] trivial rfl (by decide))))
   . cases ho; exact zpv (λfr h s=>And.intro rfl (Exists.intro [] (s.pick [0] trivial rfl (by decide))))
 . clear ha;rcases ta with bb | bc
   . have ho:=zrH ho;intro ga;refine gwk [0,1,2,4,5,6,8,9,10] [0] ?_;exact we ho
   . have ho:=zrI ho;intro gb;refine gwk [0,1,2,4,5,6,8,9,10] [0] ?_;exact rv ho⟩
instance i154 {n_0 l_1}:FI ktab 154 (zb6 n_0 l_1) [.val (z5 z6) n_0,.val (zb zW) l_1] (λout=>[wB out]):=⟨λout ho=>by
 delta zb6 at ho;refine fn λ_ _=>?_;obtain ⟨ta,ha,ho⟩:=bnd ho;refine gl2 ha ho [0,1,7,8] [] [] (λs g=>([(9,vI s)],[])) (λb=>(.exit 0,λg=>([],[]))) (λb=>(.ret,λg=>([(4,vB b)],[]))) [] (λsa gb _ ho=>?_) (λba ho ga=>?_) λbb ho ga=>?_
 . refine gct ho (λhc ho=>?_) λhc ho=>?_
   . obtain ⟨xa,hf,ho⟩:=bnd ho;refine gal λbc=>?_;refine gfz 2 zW xa 0 [6] ?_;refine gcl ho λya hg ho=>?_;refine wbr ho (λhd ho=>?_) λhd ho=>?_
     . refine gk ?_;exact we ho
     . refine wbr ho (λhe ho=>?_) λhe ho=>?_
       . refine run 5 ?_;exact we ho
       . refine gk ?_;exact we ho
   . exact lv [] [] ho
 . exact we ho
 . exact rv ho⟩
instance i155 {n_0 l_1}:FI ktab 155 (zaR n_0 l_1) [.val (z5 z6) n_0,.val (zb zW) l_1] (λout=>[wI out]):=⟨λout ho=>by
 delta zaR at ho;refine fn λ_ _=>?_;obtain ⟨ta,ha,ho⟩:=bnd ho;refine glp ha [0,8,9] [] [] (λs g=>([(5,vI s.1),(10,vI s.2)],[])) (λb=>(.exit 0,λg=>([(5,vI b)],[]))) [] (λs6 g7 _ ho=>?_) λga=>?_
 . refine gct ho (λhq8 ho=>?_) λhq8 ho=>?_
   . obtain ⟨x9,hx9,ho⟩:=bnd ho;refine gal λba=>?_;refine gfz 1 zW x9 0 [7] ?_;exact we ho
   . exact lv [] [] ho
 . exact we ho⟩
end Go.Ai.TabYtppebpagcocogaaGreat