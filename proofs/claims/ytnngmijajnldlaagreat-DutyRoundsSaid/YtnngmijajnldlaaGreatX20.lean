/- Written by program: walks through functions. -/
import Derived.Test.YtnngmijajnldlaaGreatX11
import Derived.Test.YtnngmijajnldlaaGreatX19
set_option linter.unusedSimpArgs false
set_option linter.unusedVariables false
set_option linter.unusedSectionVars false
open Option renaming some→Ob,none→Oe
open Bool renaming false→Oc
namespace Go.Ai.TabYtnngmijajnldlaaGreat
open Go Go.Ai Go.Ai.Sx Go.Proofs
attribute [local irreducible] zm
set_option maxRecDepth 100000
set_option maxHeartbeats 4000000
instance i19 {b a high_2}:FI ktab 19 (zT b a high_2) [vI b,vI a,vI high_2] (λout=>[wB out]):=⟨λout ho=>by
 delta zT at ho;refine fn λ_ _=>?_;obtain ⟨c4,hc4,ho⟩:=bnd ho;refine run 5 ?_;refine gcx c4 [] [] (λt=>(.normal,λ_=>([(6,vB t)],[]))) ?_ λ_=>?_
 . exact we hc4
 . exact rv ho⟩
instance i46 {l_0}:FI ktab 46 (zb9 l_0) [.val zfN l_0] (λout=>[.val (zjJ 2 zd6) out]):=⟨λout ho=>by
 delta zb9 at ho;refine fn λ_ _=>?_;refine gal λb1=>?_;refine run 7 ?_;refine zmD (R:=zd6) (zc:=[.nsz,.nsz,.nsz,.nsz,.nsz,.nsz]) ia' Z Om (.n rfl) rfl rfl (.c (.t rfl) (.c (.t rfl) .n)) Om ?_;refine zgf 0 ia' rfl Om Oa (.n rfl) rfl rfl (.t rfl) (.t rfl) Om ?_;refine run 1 ?_;cases ho; exact zdR (zdd (.inr rfl) (.a 0 ia' rfl rfl .n) Oa)⟩
instance i81 {b a high_2}:FI ktab 81 (zV b a high_2) [vI b,vI a,vI high_2] (λout=>[wB out]):=⟨λout ho=>by
 delta zV at ho;refine fn λ_ _=>?_;obtain ⟨c4,hc4,ho⟩:=bnd ho;refine run 5 ?_;refine gcx c4 [] [] (λt=>(.normal,λ_=>([(6,vB t)],[]))) ?_ λ_=>?_
 . exact we hc4
 . exact rv ho⟩
instance i104 {a f_1}:FI ktab 104 (zaB a f_1) [.val (zb zdm) a,.val (rFn ktab zd5 Bool (λx=>[.val zdm x]) (λy=>[.val zw y])) f_1] (λout=>[wI out]):=⟨λout ho=>by
 delta zaB at ho;refine fn λ_ _=>?_;obtain ⟨ta,ha,ho⟩:=bnd ho;refine gl2 ha ho [0,1,7] [] [] (λs g=>([(8,vI s)],[])) (λb=>(.exit 0,λg=>([],[]))) (λb=>(.ret,λg=>([(4,vI b)],[]))) [] (λs5 g6 _ ho=>?_) (λba ho ga=>?_) λbb ho ga=>?_
 . refine gct ho (λhq7 ho=>?_) λhq7 ho=>?_
   . obtain ⟨x8,hx8,y9,hy9,ho⟩:=zff ho;refine gcv hy9 ?_;exact we ho
   . exact lv [] [] ho
 . exact we ho
 . exact rv ho⟩
instance i82 {a f_1}:FI ktab 82 (zan a f_1) [.val (zb zdm) a,.val (rFn ktab zd5 Bool (λx=>[.val zdm x]) (λy=>[.val zw y])) f_1] (λout=>[wB out]):=fw
instance i105 {s_0}:FI ktab 105 (zc4 s_0) [.val zdF s_0] (λout=>[wB out]):=⟨λout ho=>by
 delta zc4 at ho;refine fn λ_ _=>?_;obtain ⟨c4,hc4,ho⟩:=bnd ho;refine run 6 ?_;refine gcx c4 [] [] (λt=>(.normal,λ_=>([(2,vB t)],[]))) ?_ λ_=>?_
 . exact we hc4
 . exact rv ho⟩
instance i106:FI ktab 106 zfm [] (λout=>[.val (zjJ 7 (zh .i64)) out]):=⟨λout ho=>by
 delta zfm at ho;refine fn λ_ _=>?_;refine gal λb1=>?_;refine run 3 ?_;refine znP (R:=zh .i64) (zc:=[.int .i64 0,.int .i64 0,.int .i64 0,.int .i64 0,.int .i64 0,.int .i64 0,.int .i64 0]) 1 0 ia' Z Om (λ_ j hj=>(match j,hj with | 0,_=>zint)) (.n rfl) rfl rfl (.c (.i Oa Oa) (.c (.i Oa Oa) (.c (.i Oa Oa) (.c (.i Oa Oa) (.c (.i Oa Oa) (.c (.i Oa Oa) .n)))))) Om ?_;refine zgf 0 ia' rfl Om Oa (.n rfl) rfl rfl (.t rfl) (.t rfl) Om ?_;refine run 1 ?_;cases ho; exact zdR (zdd (.inr rfl) (.a 0 ia' rfl rfl .n) Oa)⟩
instance i84 {n_0}:FI ktab 84 (zeZ n_0) [.val zdm n_0] (λout=>[wB out]):=⟨λout ho=>by
 delta zeZ at ho;refine fn λ_ _=>?_;obtain ⟨ca,ha,ho⟩:=bnd ho;refine run 7 ?_;refine gcx ca [1] [] (λt=>(.normal,λ_=>([(26,vB t)],[]))) ?_ λ_=>?_
 . exact we ha
 . refine gct ho (λhc ho=>?_) λhc ho=>?_
   . exact we ho
   . obtain ⟨cc,hd,ho⟩:=bnd ho;refine run 3 ?_;refine gcx cc [1] [] (λt=>(.normal,λ_=>([(34,vB t)],[]))) ?_ λ_=>?_
     . exact we hd
     . exact we ho⟩
instance i83 {n_0}:FI ktab 83 (zfJ n_0) [.val zdm n_0] (λout=>[wB out]):=fw
instance i107 {a f_1}:FI ktab 107 (zaC a f_1) [.val (zb zfk) a,.val (rFn ktab Rail Bool (λx=>[.val zfk x]) (λy=>[.val zw y])) f_1] (λout=>[wI out]):=⟨λout ho=>by
 delta zaC at ho;refine fn λ_ _=>?_;obtain ⟨ta,ha,ho⟩:=bnd ho;refine gl2 ha ho [0,1,7] [] [] (λs g=>([(8,vI s)],[])) (λb=>(.exit 0,λg=>([],[]))) (λb=>(.ret,λg=>([(4,vI b)],[]))) [] (λs5 g6 _ ho=>?_) (λba ho ga=>?_) λbb ho ga=>?_
 . refine gct ho (λhq7 ho=>?_) λhq7 ho=>?_
   . obtain ⟨x8,hx8,y9,hy9,ho⟩:=zff ho;refine gcv hy9 ?_;exact we ho
   . exact lv [] [] ho
 . exact we ho
 . exact rv ho⟩
instance i85 {a f_1}:FI ktab 85 (zao a f_1) [.val (zb zfk) a,.val (rFn ktab Rail Bool (λx=>[.val zfk x]) (λy=>[.val zw y])) f_1] (λout=>[wB out]):=fw
instance i128 {n_1}:FI ktab 128 (zax n_1) [.raw .nsz,vI n_1] (λout=>[.row zdF out]):=⟨λout ho=>by
 delta zax at ho;refine fn λ_ _=>?_;refine run 2 ?_;refine zeq (.n rfl) rfl rfl (.nil (R:=zdF)) ?_;refine gct ho (λhq1 ho=>?_) λhq1 ho=>?_
 . refine run 1 ?_;cases ho
 . refine run 6 ?_;refine zjQ (et:=169) Z rfl (.n rfl) rfl rfl (.t rfl) ?_;refine run 1 ?_;refine zdh (zix zdF (n:=11) rfl) ?_;refine gct ho (λhq2 ho=>?_) λhq2 ho=>?_
   . refine run 3 ?_;refine zjQ (et:=169) Z rfl (.n rfl) rfl rfl (.t rfl) ?_;refine zsp (et:=169) (n:=2) Z Z (.n rfl) rfl rfl (.t rfl) (.t rfl) ?_;obtain ⟨x3,hx3,ho⟩:=bnd ho;refine run 1 ?_;refine zv7 is' iy' iz' Z rfl hx3 rfl (.n rfl) rfl rfl (.t rfl) (.t rfl) rfl ?_;intro v4;refine run 1 ?_;refine zdh (zix zdF (n:=23) rfl) ?_;obtain ⟨x5,hx5,ho⟩:=bnd ho;refine run 1 ?_;refine zv8 0 is' (zso hx5) (.n rfl) rfl rfl (.t rfl) rfl (.t rfl) rfl ?_;intro v6;exact we ho
   . refine run 6 ?_;cases ho;refine zm2 (zbN zdF) ?_;exact zdR (zdd (.inr rfl) (.r 0 rfl rfl .n) Oa)⟩
instance i119 {slices_0}:FI ktab 119 (zap slices_0) [.val (zb (zb zdF)) slices_0] (λout=>[.row zdF out]):=⟨λout ho=>by
 delta zap at ho;refine fn λ_ _=>?_;refine gnr zdF ?_;obtain ⟨t9,ht9,ho⟩:=bnd ho;refine glp ht9 [0,9,10] [] [] (λs g=>([(3,vI s.1),(11,vI s.2)],[])) (λb=>(.exit 0,λg=>([(3,vI b)],[]))) [] (λs4 g5 _ ho=>?_) λgb=>?_
 . refine gct ho (λhq6 ho=>?_) λhq6 ho=>?_
   . obtain ⟨x7,hx7,ho⟩:=bnd ho;refine gct ho (λhq8 ho=>?_) λhq8 ho=>?_
     . refine run 1 ?_;cases ho
     . exact we ho
   . exact lv [] [] ho
 . obtain ⟨ya,ha,ho⟩:=bnd ho;refine run 3 ?_;refine zfF (i128.ok _ ha) (.r (zcf zc9 (zcf zc9 zg7)) .n) rfl (.n rfl) rfl rfl rfl .f (.c (.o .nilr) (.c (.o (.t rfl)) .n)) ?_;intro va;show zm ..;obtain ⟨ta,hc,ho⟩:=bnd ho;refine glp hc [25,26] [] [0] (λs g=>([(6,.raw (gh g 0)),(27,vI s.2)],[(gh g 0,.row zdF s.1)])) (λb=>(.exit 2,λg=>([(6,.raw (gh g 0))],[(gh g 0,.row zdF b)]))) [va] (λsa ga _ ho=>?_) λgc=>?_
   . refine gct ho (λhd ho=>?_) λhd ho=>?_
     . obtain ⟨xa,he,xb,hf,ho⟩:=zff ho;refine gap λvb=>?_;exact lv [vb] [0] ho
     . exact lv [gh ga 0] [0] ho
   . exact we ho⟩
instance i108 {a r_1}:FI ktab 108 (zef a r_1) [.val zdS a,.val zfk r_1] (λout=>[.row zdF out]):=⟨λout ho=>by
 delta zef at ho;refine fn λ_ _=>?_;refine gnr zdF ?_;obtain ⟨x5,hx5,x6,hx6,ho⟩:=zff ho;refine gcl ho λy7 hy7 ho=>?_;intro v8;exact we ho⟩
instance i120 {n_0}:FI ktab 120 (ze0 n_0) [vI n_0] (λout=>[wI out]):=⟨λout ho=>by
 delta ze0 at ho;refine fn λ_ _=>?_;refine run 7 ?_;refine zBv Z Z (.n rfl) rfl rfl (.t rfl) ?_;obtain ⟨x1,hx1,ho⟩:=bnd ho;refine zzn (p:=zqQ) rfl (zuM hx1) (λ_=>zpK) (.n rfl) rfl rfl rfl .f (zBu (.t rfl)) ?_;obtain ⟨x2,hx2,ho⟩:=bnd ho;refine zBw Z Z hx2 (.n rfl) rfl rfl (.t rfl) ?_;obtain ⟨t7,ht7,ho⟩:=bnd ho;refine glp ht7 [0] [] [] (λs g=>([(3,vI s)],[])) (λb=>(.exit 0,λg=>([(3,vI b)],[]))) [] (λs4 g5 _ ho=>?_) λg8=>?_
 . exact we ho
 . obtain ⟨ta,ha,ho⟩:=bnd ho;refine glp ha [0] [] [] (λs g=>([(3,vI s)],[])) (λb=>(.exit 2,λg=>([(3,vI b)],[]))) [] (λsa ga _ ho=>?_) λgb=>?_
   . exact we ho
   . exact we ho⟩
instance i109 {a b_1}:FI ktab 109 (zc5 a b_1) [.val zdF a,.val zdF b_1] (λout=>[wI out]):=fw
instance i87 {a r_1}:FI ktab 87 (ze1 a r_1) [.val zdS a,.val zfk r_1] (λout=>[wB out]):=⟨λout ho=>by
 delta ze1 at ho;refine fn λ_ _=>?_;obtain ⟨c9,hc9,ho⟩:=bnd ho;refine run 8 ?_;refine gcx c9 [2,3] [] (λt=>(.normal,λ_=>([(43,vB t)],[]))) ?_ λ_=>?_
 . exact we hc9
 . refine gct ho (λha ho=>?_) λha ho=>?_
   . exact we ho
   . refine gcl ho λya hh ho=>?_;intro va;show zm ..;obtain ⟨ta,hc,ho⟩:=bnd ho;refine gl2 hc ho [5,47,48] [] [0] (λs g=>([(49,vI s)],[(va,.row zdF ya)])) (λb=>(.exit 0,λg=>([],[]))) (λb=>(.ret,λg=>([(4,vB b)],[]))) [] (λsa gb _ ho=>?_) (λba ho ga=>?_) λbb ho ga=>?_
     . refine gct ho (λhd ho=>?_) λhd ho=>?_
       . obtain ⟨xa,hi,ho⟩:=bnd ho;refine gal λbc=>?_;refine gfz 2 zdF xa 0 [7] ?_;refine run 2 ?_;refine zaK [11] Z ?_;refine gcl ho λyb hj ho=>?_;refine wbr ho (λhe ho=>?_) λhe ho=>?_
         . refine gk ?_;exact we ho
         . refine wbr ho (λhf ho=>?_) λhf ho=>?_
           . obtain ⟨xb,hk,ho⟩:=bnd ho;refine gcl ho λyc hl ho=>?_;refine gcl ho λyd hm ho=>?_;refine gct ho (λhg ho=>?_) λhg ho=>?_
             . exact we ho
             . exact lv [] [0] ho
           . refine gk ?_;exact lv [] [0] ho
       . exact lv [] [] ho
     . exact we ho
     . exact rv ho⟩
instance i86 {a p_1}:FI ktab 86 (zev a p_1) [.val zfk a,.val (zL zdS) p_1] (λout=>[wB out]):=fw
instance i88 {a e_1}:FI ktab 88 (zcH a e_1) [.val zdS a,.val zaR e_1] (λout=>[wI out]):=fw
instance i53 {p_0}:FI ktab 53 (zdJ p_0) [.val zdS p_0] (λout=>[wI out]):=⟨λout ho=>by
 delta zdJ at ho;refine fn λ_ _=>?_;obtain ⟨c4,hc4,ho⟩:=bnd ho;refine run 7 ?_;refine gcx c4 [1] [] (λt=>(.normal,λ_=>([(19,vB t)],[]))) ?_ λ_=>?_
 . exact we hc4
 . refine gct ho (λhq8 ho=>?_) λhq8 ho=>?_
   . exact we ho
   . obtain ⟨ca,hd,ho⟩:=bnd ho;refine run 3 ?_;refine gcx ca [1] [] (λt=>(.normal,λ_=>([(28,vB t)],[]))) ?_ λ_=>?_
     . have ho:=hd;obtain ⟨ya,he,ho⟩:=bnd ho;refine run 3 ?_;refine zfF (i82.ok _ he) (.v zeX .n) rfl (.n rfl) rfl rfl rfl .f (.c (.o (.t rfl)) (.c (.o (.fv (zge (λx y hf=>i83.ok _ hf) rfl))) .n)) ?_;show zm ..;refine wbr ho (λha ho=>?_) λha ho=>?_
       . exact we ho
       . refine run 3 ?_;refine zeB (X:=Rail) (Y:=Bool) (λx=>[.val zfk x]) (λy=>[.val zw y]) (f:=(λx=>zev x p_0)) (λx y hf=>i86.ok _ hf) rfl (.g rfl rfl (gf0 ha)) rfl rfl .n (.c (.t rfl) .n) ?_;exact we ho
     . refine gct ho (λhg ho=>?_) λhg ho=>?_
       . exact we ho
       . refine run 3 ?_;refine zoT zw zxm rfl (.n rfl) rfl rfl ?_;intro ba;obtain ⟨ta,hh,ho⟩:=bnd ho;refine gl2 hh ho [1,31,32] [] [0] (λs g=>([(3,.raw (.map ba)),(33,vI s.1)],[(.map ba,.mp zaR zw s.2)])) (λb=>(.exit 0,λg=>([(3,.raw (.map ba))],[(.map ba,.mp zaR zw b)]))) (λb=>(.ret,λg=>([(2,vI b)],[]))) [] (λsa gc _ ho=>?_) (λbb ho ga=>?_) λbc ho ga=>?_
         . refine gct ho (λhi ho=>?_) λhi ho=>?_
           . obtain ⟨xa,hp,ho⟩:=bnd ho;refine gal λbd=>?_;refine gfz 2 zdm xa 0 [5] ?_;obtain ⟨tb,hj,ho⟩:=bnd ho;refine gl2 hj ho [1,3,4,31,32,33,39,40] [] [0] (λs g=>([(41,vI s.1)],[(.map ba,.mp zaR zw s.2)])) (λb=>(.exit 2,λg=>([],[(.map ba,.mp zaR zw b)]))) (λb=>(.ret,λg=>([(2,vI b.1)],[]))) [] (λsb gd _ ho=>?_) (λbe ho gb=>?_) λbf ho gb=>?_
             . refine gct ho (λhk ho=>?_) λhk ho=>?_
               . obtain ⟨xb,hr,ho⟩:=bnd ho;refine gal λbg=>?_;refine gfz 1 zaR xb 0 [7] ?_;refine gcl ho λyb hs ho=>?_;refine wbr ho (λhc ho=>?_) λhc ho=>?_
                 . refine gk ?_;exact we ho
                 . refine run 4 ?_;refine zzD 0 rfl zxm iz' rfl (.g rfl rfl (gf0 hc)) rfl rfl (.t rfl) (.t rfl) ?_;refine wbr ho (λhl ho=>?_) λhl ho=>?_
                   . refine gk ?_;exact we ho
                   . refine gcl ho λyc ht ho=>?_;refine gct ho (λhm ho=>?_) λhm ho=>?_
                     . exact we ho
                     . refine run 4 ?_;refine zhs 0 zxm (.inl rfl) rfl (.n rfl) rfl (.t rfl) (.t rfl) .b rfl ?_;exact lv [] [0] ho
               . exact lv [] [0] ho
             . exact lv [] [0] ho
             . cases ho; exact id (lf [] [])
           . exact lv [] [0] ho
         . obtain ⟨xd,hn,ho⟩:=bnd ho;refine run 4 ?_;refine zzF (st:=181) (kt:=183) (et:=4) 0 rfl Z hn rfl rfl (.n rfl) rfl rfl (.t rfl) ?_;exact we ho
         . exact rv ho⟩
instance i110 {p_0}:FI ktab 110 (zeg p_0) [.val zdS p_0] (λout=>[.val (ze9 zai) out.1,wB out.2]):=⟨λout ho=>by
 delta zeg at ho;refine fn λ_ _=>?_;refine run 3 ?_;refine zau rfl (.n rfl) rfl (e:=.val (ze9 zai) Oe) (λz fr h s=>⟨_,rfl,zcv⟩) ?_;refine gcl ho λy1 hy1 ho=>?_;refine gct ho (λhq2 ho=>?_) λhq2 ho=>?_
 . refine run 2 ?_;refine zau rfl (.n rfl) rfl (e:=.val (ze9 zai) Oe) (λz fr h s=>⟨_,rfl,zcv⟩) ?_;exact we ho
 . refine run 4 ?_;refine zoT (zh .i64) zxn rfl (.n rfl) rfl rfl ?_;intro b3;refine zdh (zsi (n:=18) rfl) ?_;refine zkr (R:=zi4) zBE (.n rfl) rfl rfl rfl (.p (.t rfl) rfl (.z (λ_=>zsl) (.p (.t rfl) rfl (.n rfl)))) ?_;refine xbo λb4=>?_;refine zdh (zht (q:=2) 0 rfl rfl rfl) ?_;refine zdh (zbN (zh .i64)) ?_;refine zdh (zlQ (q:=3) 1 rfl rfl rfl) ?_;obtain ⟨ta,ha,ho⟩:=bnd ho;refine glp ha [1,4,22,23] [2] [1,0,2] (λs g=>([(24,vI s.1)],[(.ptr b4 0,.box [.val (zb zdm) p_0.1,.val (zb zfk) p_0.2.1,.raw (gh g 0),.raw (.map b3)]),(gh g 0,.row (zh .i64) s.2)])) (λb=>(.exit 0,λg=>([],[(.ptr b4 0,.box [.val (zb zdm) p_0.1,.val (zb zfk) p_0.2.1,.raw (gh g 0),.raw (.map b3)]),(gh g 0,.row (zh .i64) b)]))) [.nsz] (λsa ga _ ho=>?_) λgb=>?_
   . refine gct ho (λhc ho=>?_) λhc ho=>?_
     . obtain ⟨xa,hj,ho⟩:=bnd ho;refine gal λba=>?_;refine gfz 1 zfk xa 0 [6] ?_;refine gcl ho λya hk ho=>?_;intro va;show zm ..;obtain ⟨tc,hd,ho⟩:=bnd ho;refine glp hd [1,4,7,22,23,24] [1,2,3] [0,1,2,3] (λs g=>([(8,vI s.1),(9,vI s.2)],[(va,.row zdF ya)])) (λb=>(.exit 2,λg=>([(8,vI b)],[]))) [] (λsb gc _ ho=>?_) λgd=>?_
       . refine gct ho (λhe ho=>?_) λhe ho=>?_
         . refine run 3 ?_;refine zaK [5,9] Z ?_;obtain ⟨xe,hl,xf,hm,ho⟩:=zff ho;refine gcl ho λyb hn ho=>?_;exact lv [] [0,1,2,3] ho
         . exact lv [] [1,2,3] ho
       . obtain ⟨xg,hp,ho⟩:=bnd ho;refine gap λvb=>?_;refine run 2 ?_;refine zbv 1 0 (U27).sz rfl rfl Og (.n rfl) rfl rfl (.t rfl) (.t rfl) Om ?_;exact lv [vb] [1,0,2] ho
     . exact lv [gh ga 0] [0,1,2] ho
   . obtain ⟨tb,hf,ho⟩:=bnd ho;refine glp hf [4,61,62] [0,1] [2,0,1] (λs g=>([(63,vI s.1)],[(.map b3,.mp zaR (zh .i64) s.2)])) (λb=>(.exit 4,λg=>([],[(.map b3,.mp zaR (zh .i64) b)]))) [] (λsc ge _ ho=>?_) λgf=>?_
     . refine gct ho (λhg ho=>?_) λhg ho=>?_
       . obtain ⟨xb,hr,ho⟩:=bnd ho;refine gal λbb=>?_;refine gfz 1 zdm xb 0 [11] ?_;obtain ⟨td,hh,ho⟩:=bnd ho;refine glp hh [4,61,62,63,68,69] [1,2] [0,1,2] (λs g=>([(70,vI s.1)],[(.map b3,.mp zaR (zh .i64) s.2)])) (λb=>(.exit 6,λg=>([],[(.map b3,.mp zaR (zh .i64) b)]))) [] (λsd gg _ ho=>?_) λgi=>?_
         . refine gct ho (λhi ho=>?_) λhi ho=>?_
           . obtain ⟨xd,hs,ho⟩:=bnd ho;refine gal λbc=>?_;refine gfz 2 zaR xd 0 [13] ?_;refine run 1 ?_;refine zaK [3] Z ?_;refine run 6 ?_;refine zhs 0 zxn (.inl rfl) rfl (.n rfl) rfl (.t rfl) (.t rfl) (.t rfl) rfl ?_;exact lv [] [0,1,2] ho
           . exact lv [] [0,1,2] ho
         . exact lv [] [0,1,2] ho
       . exact lv [] [0,1,2] ho
     . refine run 6 ?_;cases ho;refine zm2 (zoV 0 0 (q:=3) [] rfl rfl rfl rfl Om trivial) ?_;refine zm2 (zcS 1 0 (q:=2) [] rfl rfl rfl rfl Om trivial) ?_;refine zm2 (zb8 (R:=zai) (a:=((p_0.1,p_0.2.1,()),ta,tb,())) 0 [4,83,2] (zt (zt (zz rfl) (zt (zz rfl) zb7 rfl) rfl) (zt (zz rfl) (zt (zz rfl) zb7 rfl) rfl) rfl) rfl rfl ⟨rfl,rfl,rfl,trivial⟩) ?_;refine zm2 (zkC (n:=2) rfl) ?_;exact zdR (zdd (.inr rfl) (.v rfl (.v rfl .n)) Oa)⟩
instance i121 {a m_1}:FI ktab 121 (zbE a m_1) [.val (zL zai) a,.val zam m_1] (λout=>[wB out]):=fw
instance i140 {m_0}:FI ktab 140 (zew m_0) [.val zam m_0] (λout=>[.val zaR out]):=fw
instance i150 {b a to_2}:FI ktab 150 (zfK b a to_2) [.val zaz b,vI a,vI to_2] (λout=>[wB out]):=fw
instance i151 {b a to_2}:FI ktab 151 (ze2 b a to_2) [.val zaz b,vI a,vI to_2] (λout=>[wB out]):=fw
instance i152 {b a to_2}:FI ktab 152 (zbP b a to_2) [.val zaz b,vI a,vI to_2] (λout=>[wB out]):=⟨λout ho=>by
 delta zbP at ho;refine fn λ_ _=>?_;obtain ⟨c4,hc4,ho⟩:=bnd ho;refine run 6 ?_;refine gcx c4 [] [] (λt=>(.normal,λ_=>([(6,vB t)],[]))) ?_ λ_=>?_
 . exact we hc4
 . exact rv ho⟩
instance i153 {b a to_2}:FI ktab 153 (zcg b a to_2) [.val zaz b,vI a,vI to_2] (λout=>[wB out]):=⟨λout ho=>by
 delta zcg at ho;refine fn λ_ _=>?_;obtain ⟨c4,hc4,ho⟩:=bnd ho;refine run 6 ?_;refine gcx c4 [] [] (λt=>(.normal,λ_=>([(6,vB t)],[]))) ?_ λ_=>?_
 . exact we hc4
 . exact rv ho⟩
instance i154 {b a to_2}:FI ktab 154 (zbx b a to_2) [.val zaz b,vI a,vI to_2] (λout=>[wB out]):=⟨λout ho=>by
 delta zbx at ho;refine fn λ_ _=>?_;obtain ⟨c5,hc5,ho⟩:=bnd ho;refine run 6 ?_;refine gcx c5 [] [] (λt=>(.normal,λ_=>([(6,vB t)],[]))) ?_ λ_=>?_
 . exact we hc5
 . exact rv ho⟩
instance i155 {b a to_2}:FI ktab 155 (zby b a to_2) [.val zaz b,vI a,vI to_2] (λout=>[wB out]):=⟨λout ho=>by
 delta zby at ho;refine fn λ_ _=>?_;obtain ⟨c5,hc5,ho⟩:=bnd ho;refine run 6 ?_;refine gcx c5 [] [] (λt=>(.normal,λ_=>([(6,vB t)],[]))) ?_ λ_=>?_
 . exact we hc5
 . exact rv ho⟩
instance i141 {b a to_2}:FI ktab 141 (zbt b a to_2) [.val zaz b,vI a,vI to_2] (λout=>[wB out]):=⟨λout ho=>by
 delta zbt at ho;refine fn λ_ _=>?_;refine run 7 ?_;refine znP (R:=rFn ktab (zaG×Int×Int) Bool (λx=>[.val zaz x.1,.val (zh .i64) x.2.1,.val (zh .i64) x.2.2]) (λy=>[.val zw y])) (zc:=[.nfz,.nfz,.nfz,.nfz,.nfz,.nfz,.nfz]) 1 (λ_=>Oe) ia' Z Om (λ_ j hj=>(match j,hj with | 0,_=>zBh)) (.n rfl) rfl rfl (.c (.fv (zge (λx y hf=>i150.ok _ hf) rfl)) (.c (.fv (zge (λx y hf=>i151.ok _ hf) rfl)) (.c (.fv (zge (λx y hf=>i152.ok _ hf) rfl)) (.c (.fv (zge (λx y hf=>i153.ok _ hf) rfl)) (.c (.fv (zge (λx y hf=>i154.ok _ hf) rfl)) (.c (.fv (zge (λx y hf=>i155.ok _ hf) rfl)) .n)))))) Om ?_;refine gal λb1=>?_;refine zgf 0 ia' rfl Om Oa (.n rfl) rfl rfl (.t rfl) (.t rfl) Om ?_;refine zdh (zi6 (R:=rFn ktab (zaG×Int×Int) Bool (λx=>[.val zaz x.1,.val (zh .i64) x.2.1,.val (zh .i64) x.2.2]) (λy=>[.val zw y])) 0 [7] Oa Oa rfl rfl ⟨rfl,trivial⟩) ?_;obtain ⟨x4,hx4,ho⟩:=bnd ho;refine run 6 ?_;refine zcX ia' hx4 (.n rfl) rfl rfl (.t rfl) (.t rfl) ?_;obtain ⟨y5,hy5,ho⟩:=bnd ho;refine gcv hy5 ?_;exact we ho⟩
instance i142 {m_0}:FI ktab 142 (zdU m_0) [.val zam m_0] (λout=>[wI out]):=fw
instance i170 {a y_1}:FI ktab 170 (zbc a y_1) [vI a,vI y_1] (λout=>[wB out]):=⟨λout ho=>by
 delta zbc at ho;refine fn λ_ _=>?_;obtain ⟨c5,hc5,ho⟩:=bnd ho;refine run 5 ?_;refine gcx c5 [] [] (λt=>(.normal,λ_=>([(4,vB t)],[]))) ?_ λ_=>?_
 . exact we hc5
 . exact rv ho⟩
theorem zdY {c e d out} (ho:zab c e d=Ob out) (a:zd):zfL ktab 164 [.raw a,.val (zh .i64) e,.val (zh .i64) d] [(a,.row (zh .i64) c)] [] (λγ=>[(a,.row (zh .i64) out)]):=by
 refine zco (F:=Tryz.f164) Om Om Om (λC=>?_);delta zab at ho;obtain ⟨ta,ha,ho⟩:=bnd ho;refine glp ha [0,1,2] [] [0] (λs g=>([(6,vI s.1)],[(a,.row (zh .i64) s.2)])) (λb=>(.exit 0,λg=>([],[(a,.row (zh .i64) b)]))) [] (λsa ga _ ho=>?_) λgb=>?_
 . refine gct ho (λhc ho=>?_) λhc ho=>?_
   . obtain ⟨tb,hd,ho⟩:=bnd ho;refine glp hd [0,1,2,6] [] [0] (λs g=>([(7,vI s.1)],[(a,.row (zh .i64) s.2)])) (λb=>(.exit 2,λg=>([],[(a,.row (zh .i64) b)]))) [] (λsb gc _ ho=>?_) λgd=>?_
     . refine run 2 ?_;refine zaK [7,12] Z ?_;refine wbr ho (λhe ho=>?_) λhe ho=>?_
       . obtain ⟨xa,hg,xb,hh,ho⟩:=zff ho;refine gcl ho λya hi ho=>?_;refine gct ho (λhf ho=>?_) λhf ho=>?_
         . refine run 3 ?_;refine zaK [9,13] Z ?_;obtain ⟨xd,hj,xe,hk,ho⟩:=zff ho;refine run 14 ?_;obtain ⟨xf,hl,xg,hm,ho⟩:=zff ho;exact lv [] [0] ho
         . exact lv [] [0] ho
       . refine gk ?_;exact lv [] [0] ho
     . exact lv [] [0] ho
   . exact lv [] [0] ho
 . cases ho; exact id (zP [0] [] (.inl rfl) .n rfl Oa)
end Go.Ai.TabYtnngmijajnldlaaGreat
namespace Go.Ai.TabYtnngmijajnldlaaGreat
open Go Go.Ai Go.Ai.Sx Go.Proofs
attribute [local irreducible] zm
set_option maxRecDepth 100000
set_option maxHeartbeats 4000000
instance i174 {x_0}:FI ktab 174 (zeM x_0) [.val (zh .u64) x_0] (λout=>[wI out]):=⟨λout ho=>by
 delta zeM at ho;refine fn λ_ _=>?_;refine gct ho (λhq1 ho=>?_) λhq1 ho=>?_
 . obtain ⟨x2,hx2,ho⟩:=bnd ho;refine gct ho (λhq3 ho=>?_) λhq3 ho=>?_
   . obtain ⟨x4,hx4,ho⟩:=bnd ho;refine gct ho (λhq5 ho=>?_) λhq5 ho=>?_
     . obtain ⟨x6,hx6,x7,hx7,ho⟩:=zff ho;refine run 16 ?_;refine zg8 (tbl:=zdM) Z Z hx7 (.n rfl) rfl rfl (.t rfl) ?_;exact we ho
     . obtain ⟨x8,hx8,ho⟩:=bnd ho;refine run 6 ?_;refine zg8 (tbl:=zdM) Z Z hx8 (.n rfl) rfl rfl (.t rfl) ?_;exact we ho
   . refine gct ho (λhq9 ho=>?_) λhq9 ho=>?_
     . obtain ⟨xa,hk,xb,ha,ho⟩:=zff ho;refine run 16 ?_;refine zg8 (tbl:=zdM) Z Z ha (.n rfl) rfl rfl (.t rfl) ?_;exact we ho
     . obtain ⟨xd,hc,ho⟩:=bnd ho;refine run 6 ?_;refine zg8 (tbl:=zdM) Z Z hc (.n rfl) rfl rfl (.t rfl) ?_;exact we ho
 . refine gct ho (λhd ho=>?_) λhd ho=>?_
   . obtain ⟨xe,hl,ho⟩:=bnd ho;refine gct ho (λhe ho=>?_) λhe ho=>?_
     . obtain ⟨xf,hm,xg,hf,ho⟩:=zff ho;refine run 16 ?_;refine zg8 (tbl:=zdM) Z Z hf (.n rfl) rfl rfl (.t rfl) ?_;exact we ho
     . obtain ⟨xh,hg,ho⟩:=bnd ho;refine run 6 ?_;refine zg8 (tbl:=zdM) Z Z hg (.n rfl) rfl rfl (.t rfl) ?_;exact we ho
   . refine gct ho (λhh ho=>?_) λhh ho=>?_
     . obtain ⟨xi,hn,xj,hi,ho⟩:=zff ho;refine run 16 ?_;refine zg8 (tbl:=zdM) Z Z hi (.n rfl) rfl rfl (.t rfl) ?_;exact we ho
     . obtain ⟨xk,hj,ho⟩:=bnd ho;refine run 6 ?_;refine zg8 (tbl:=zdM) Z Z hj (.n rfl) rfl rfl (.t rfl) ?_;exact we ho⟩
instance i157 {x_0}:FI ktab 157 (zex x_0) [.val (zh .u64) x_0] (λout=>[wI out]):=⟨λout ho=>by
 delta zex at ho;refine fn λ_ _=>?_;refine gk ?_;exact we ho⟩
theorem ze7 {c f e a out} (ho:zbp c f e a=Ob out) (d:zd):zfL ktab 156 [.raw d,.val (zh .i64) f,.val (zh .i64) e,.val (zh .i64) a] [(d,.row (zh .i64) c)] [] (λγ=>[(d,.row (zh .i64) out)]):=by
 refine zco (F:=Tryz.f156) Om Om Om (λC=>?_);delta zbp at ho;obtain ⟨ta,ha,ho⟩:=bnd ho;refine glp ha [0] [] [0] (λs g=>([(1,vI s.1),(2,vI s.2.1),(3,vI s.2.2.1),(8,vB s.d3.1),(9,vB s.d4.1)],[(d,.row (zh .i64) s.d5)])) (λb=>(.ret,λg=>([],[(d,.row (zh .i64) b)]))) [] (λsa ga _ ho=>?_) λgb=>?_
 . refine gct ho (λhc ho=>?_) λhc ho=>?_
   . obtain ⟨ya,hd,ho⟩:=bnd ho;refine gcm [0] [] (zdY hd d) ?_;intro gc;show zm ..;exact lv [] [0] ho
   . refine gct ho (λhe ho=>?_) λhe ho=>?_
     . refine run 5 ?_;cases ho
     . refine gct ho (λhf ho=>?_) λhf ho=>?_
       . refine run 5 ?_;cases ho
       . refine run 6 ?_;cases ho
 . cases ho; exact id (zP [0] [] (.inr rfl) .n rfl Oa)
theorem zgp {b out} (ho:zbQ b=Ob out) (a:zd):zfL ktab 143 [.raw a] [(a,.row (zh .i64) b)] [] (λγ=>[(a,.row (zh .i64) out)]):=by
 refine zco (F:=Tryz.f143) Om Om Om (λC=>?_);delta zbQ at ho;refine gcl ho λy1 hy1 ho=>?_;obtain ⟨y2,hy2,ho⟩:=bnd ho;refine gcm [0] [] (ze7 hy2 a) ?_;intro g3;show zm ..;cases ho; exact zdD (zP [0] [] (.inl rfl) .n rfl Oa)
instance i144 {n_0}:FI ktab 144 (ze3 n_0) [vI n_0] (λout=>[.val zam out]):=fw
theorem zfQ {σ τ:Type} {step:σ->zad->Option (σ⊕τ)} {yv:zd} {K:σ⊕τ->List zd->Sx.Obj} (hcb:zr9 ktab yv (λx=>[.val zam x]) step K) {s_:σ} {d a out} (ho:zbz step s_ d a=Ob out) (γ0:List zd):zfL ktab 139 [.raw yv,.val (zL (zL zai)) d,.val (zL zam) a] [(yv,K (.inl s_) γ0)] [] (λγ=>[(yv,K out (untup (gh γ 0)))]):=by
 refine zco (F:=Tryz.f139) Om Om Om (λC=>?_);delta zbz at ho;refine gcl ho λy5 hy5 ho=>?_;refine gcl ho λy6 hy6 ho=>?_;obtain ⟨x7,hx7,ho⟩:=bnd ho;refine gal λb8=>?_;refine gfz 1 zdm x7 0 [4] ?_;refine gnr (zh .i64) ?_;obtain ⟨ta,ha,ho⟩:=bnd ho;refine glp ha [0,1,2,4,25,26] [] [1,0] (λs g=>([(5,.raw (gh g 0)),(27,vI s.2)],[(yv,K (.inl s_) γ0),(gh g 0,.row (zh .i64) s.1)])) (λb=>(.exit 0,λg=>([(5,.raw (gh g 0))],[(yv,K (.inl s_) γ0),(gh g 0,.row (zh .i64) b)]))) [.nsz] (λsa gb _ ho=>?_) λgc=>?_
 . refine gct ho (λhc ho=>?_) λhc ho=>?_
   . obtain ⟨xa,hj,ho⟩:=bnd ho;refine gal λba=>?_;refine gfz 2 zaR xa 0 [7] ?_;refine gcl ho λyb hk ho=>?_;refine zw6 zxn iz' (.n rfl) rfl rfl (.t rfl) (.t rfl) ?_;refine gcl ho λyc hl ho=>?_;refine gct ho (λhd ho=>?_) λhd ho=>?_
     . refine gcl ho λyd hm ho=>?_;obtain ⟨xb,hn,ho⟩:=bnd ho;refine gap λvb=>?_;exact lv [vb] [1,0] ho
     . exact lv [gh gb 0] [0,1] ho
   . exact lv [gh gb 0] [0,1] ho
 . obtain ⟨ya,he,ho⟩:=bnd ho;refine gcm [1] [0] (zgp he (gh gc 0)) ?_;intro ge;show zm ..;obtain ⟨tb,hf,ho⟩:=bnd ho;refine gl2 hf ho [0,55,56] [] [0,1] (λs g=>([(57,vI s.1)],[(gh gc 0,.row (zh .i64) ya),(yv,K s.2 (untup (gh g 0)))])) (λb=>(.exit 2,λg=>([],[(yv,K b (untup (gh g 0)))]))) (λb=>(.ret,λg=>([],[(yv,K b (untup (gh g 0)))]))) [.tuple γ0] (λsb gd _ ho=>?_) (λbb ho ga=>?_) λbc ho ga=>?_
   . refine gct ho (λhg ho=>?_) λhg ho=>?_
     . obtain ⟨xd,hp,ho⟩:=bnd ho;refine gcl ho λye hr ho=>?_;obtain ⟨sc,hs55,ho⟩:=bnd ho;refine zdh (zsc (K:=K) 1 (zoR hs55) rfl rfl) ?_;obtain ⟨yf,hh,ho⟩:=bnd ho;refine zoQ [1] [0] (λ_ h=>by cases h) hcb hh rfl rfl rfl Oa (.n rfl) rfl rfl rfl (.t rfl) (.c (.t rfl) .n) ?_;intro va;refine gct ho (λhi ho=>?_) λhi ho=>?_
       . exact lv [.tuple va] [0] ho
       . exact lv [.tuple va] [1,0] ho
     . exact lv [.tuple (untup (gh gd 0))] [1] ho
   . cases ho; exact id (zP [0] [.tuple (untup (gh ga 0))] (.inl rfl) .n rfl Oa)
   . cases ho; exact id (zP [0] [.tuple (untup (gh ga 0))] (.inr rfl) .n rfl Oa)
theorem zf5 {σ τ:Type} {step:σ->zad->Option (σ⊕τ)} {yv:zd} {K:σ⊕τ->List zd->Sx.Obj} (hcb:zr9 ktab yv (λx=>[.val zam x]) step K) {s_:σ} {b a out} (ho:zbz step s_ b a=Ob out) (γ0:List zd):zfL ktab 139 [.raw yv,.val (zL (zL zai)) b,.val (zL zam) a] [(yv,K (.inl s_) γ0)] [] (λγ=>[(yv,K out γ)]):=
 zoS (zfQ hcb ho γ0)
instance i130 {a m_1}:FI ktab 130 (zcO a m_1) [.val (zL zai) a,.val zam m_1] (λout=>[.val (zqK 139 [] [.val (zL (zL zai)) out.1,.val (zL zam) out.2]) ()]):=⟨λout ho=>by
 delta zcO at ho;refine fn λ_ _=>?_;refine run 4 ?_;refine zau rfl (.n rfl) rfl (e:=.raw .nfz) (λz fr h s=>⟨_,rfl,by simp only [TE.ok]; rfl⟩) ?_;refine run 3 ?_;refine zi0 (.n rfl) rfl rfl .n (.c (.t rfl) (.c (.t rfl) .n)) ?_;exact we ho⟩
instance i122 {b a k_2}:FI ktab 122 (za2 b a k_2) [.val (zL zai) b,.val zam a,.val zam k_2] (λout=>[wB out]):=⟨λout ho=>by
 delta za2 at ho;refine fn λ_ _=>?_;refine gal λb1=>?_;refine gcl ho λy2 hy2 ho=>?_;obtain ⟨ta,ha,ho⟩:=bnd ho;refine run 2 ?_;refine zsb (σ:=Bool) (τ:=Bool) (X:=zad) (ins:=(λx=>[.val zam x])) (zBp (λs g=>[(.ptr b1 0,.box [vB s])]) (λt g=>[(.ptr b1 0,.box [vB t])])) (λ_=>Oe) (s0:=Oc) (r:=ta) [] [0] [] rfl (.t rfl) rfl rfl Oa (λ_=>rfl) (λyv K hcb γ=>zf5 hcb ha γ) ?_ ?_
 . clear ho ha;intro s8 g9 x3 r13 ho C;refine gal λba=>?_;refine gfz 1 zam x3 0 [7] ?_;refine zdD (λfr h s=>And.intro rfl (Exists.intro _ (Exists.intro _ (And.intro s (λC=>?_)))));refine gct ho (λhc ho=>?_) λhc ho=>?_
   . refine run 4 ?_;cases ho; exact zdR (λfr h s=>And.intro rfl (Exists.intro [] (s.pick [0] trivial rfl Oa)))
   . cases ho; exact zdL (λfr h s=>And.intro rfl (Exists.intro [] (s.pick [0] trivial rfl Oa)))
 . clear ha;rcases ta with bb | bc
   . have ho:=zwY ho;intro ga;refine gwk [0,1,2,4,5,6,8,9,10] [0] ?_;exact we ho
   . have ho:=zwZ ho;intro gb;refine gwk [0,1,2,4,5,6,8,9,10] [0] ?_;exact rv ho⟩
instance i111 {a l_1}:FI ktab 111 (zch a l_1) [.val (zL zai) a,.val (zb zam) l_1] (λout=>[wB out]):=⟨λout ho=>by
 delta zch at ho;refine fn λ_ _=>?_;obtain ⟨ta,ha,ho⟩:=bnd ho;refine gl2 ha ho [0,1,7,8] [] [] (λs g=>([(9,vI s)],[])) (λb=>(.exit 0,λg=>([],[]))) (λb=>(.ret,λg=>([(4,vB b)],[]))) [] (λsa gb _ ho=>?_) (λba ho ga=>?_) λbb ho ga=>?_
 . refine gct ho (λhc ho=>?_) λhc ho=>?_
   . obtain ⟨xa,hf,ho⟩:=bnd ho;refine gal λbc=>?_;refine gfz 2 zam xa 0 [6] ?_;refine gcl ho λya hg ho=>?_;refine wbr ho (λhd ho=>?_) λhd ho=>?_
     . refine gk ?_;exact we ho
     . refine wbr ho (λhe ho=>?_) λhe ho=>?_
       . refine run 5 ?_;exact we ho
       . refine gk ?_;exact we ho
   . exact lv [] [] ho
 . exact we ho
 . exact rv ho⟩
instance i112 {a l_1}:FI ktab 112 (zbd a l_1) [.val (zL zai) a,.val (zb zam) l_1] (λout=>[wI out]):=⟨λout ho=>by
 delta zbd at ho;refine fn λ_ _=>?_;obtain ⟨ta,ha,ho⟩:=bnd ho;refine glp ha [0,8,9] [] [] (λs g=>([(5,vI s.1),(10,vI s.2)],[])) (λb=>(.exit 0,λg=>([(5,vI b)],[]))) [] (λs6 g7 _ ho=>?_) λga=>?_
 . refine gct ho (λhq8 ho=>?_) λhq8 ho=>?_
   . obtain ⟨x9,hx9,ho⟩:=bnd ho;refine gal λba=>?_;refine gfz 1 zam x9 0 [7] ?_;exact we ho
   . exact lv [] [] ho
 . exact we ho⟩
end Go.Ai.TabYtnngmijajnldlaaGreat