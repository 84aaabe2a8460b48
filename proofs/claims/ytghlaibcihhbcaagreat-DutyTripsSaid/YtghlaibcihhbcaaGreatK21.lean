/- Written by program: walks through functions. -/
import Derived.Test.YtghlaibcihhbcaaGreatK11
import Derived.Test.YtghlaibcihhbcaaGreatK17
import Derived.Test.YtghlaibcihhbcaaGreatK20
set_option linter.unusedSimpArgs false
set_option linter.unusedVariables false
set_option linter.unusedSectionVars false
namespace Go.Ai.TabYtghlaibcihhbcaaGreat
open Go Go.Ai Go.Ai.Sx Go.Proofs
attribute [local irreducible] zm
set_option maxRecDepth 100000
set_option maxHeartbeats 4000000
instance i38 {p_0 l_1}:FI ktab 38 (zci p_0 l_1) [.val zbJ p_0,.val ze3 l_1] (λout=>[.val (ze2 zp) out.1,wB out.2]):=⟨λout ho=>by
 delta zci at ho;refine fn λ_ _=>?_;refine run 4 ?_;refine zam rfl (.n rfl) rfl (e:=.val (ze2 zp) none) (λz fr h s=>⟨_,rfl,zb4⟩) ?_;obtain ⟨c4,hc4,ho⟩:=bnd ho;refine run 4 ?_;refine gcx c4 [2,3] [] (λt=>(.normal,λ_=>([(18,vB t)],[]))) ?_ λ_=>?_
 . exact we hc4
 . refine gct ho (λhq8 ho=>?_) λhq8 ho=>?_
   . refine run 2 ?_;refine zam rfl (.n rfl) rfl (e:=.val (ze2 zp) none) (λz fr h s=>⟨_,rfl,zb4⟩) ?_;exact we ho
   . refine run 4 ?_;refine zlS (R:=zp) zzv (.n rfl) rfl rfl rfl (.p (.t rfl) rfl (.z (λ_=>(zxl znil rfl rfl)) (.z (λ_=>(zxl znil rfl rfl)) (.n rfl)))) ?_;refine xbo λb9=>?_;refine gcl ho λyb hg ho=>?_;obtain ⟨ta,hd,ho⟩:=bnd ho;refine gl2 hd ho [2,3,6,23] [] [0] (λs g=>([(24,vI s.1)],[(.ptr b9 0,.box [.val (zd z5) l_1.1.1,.val (zd (zh .i64)) l_1.1.2.1,.val (zd (zh .i64)) l_1.1.2.2.1,.val (zd z5) l_1.2.1.1,.val (zd (zh .i64)) l_1.2.1.2.1,.val (zd (zh .i64)) l_1.2.1.2.2.1,vI l_1.2.2.1.1,vI l_1.2.2.1.2.1,vI l_1.2.2.1.2.2.1,vI l_1.2.2.1.2.2.2.1,vI l_1.2.2.1.2.2.2.2.1,vI l_1.2.2.1.2.2.2.2.2.1,vI l_1.2.2.1.2.2.2.2.2.2.1,vI l_1.2.2.1.2.2.2.2.2.2.2.1,vI l_1.2.2.1.2.2.2.2.2.2.2.2.1,.val (zd (zh .i64)) l_1.2.2.1.2.2.2.2.2.2.2.2.2.1,vI l_1.2.2.2.1,vI l_1.2.2.2.2.1,.val (zd (zh .i64)) s.2.1,.val (zd (zh .i64)) s.2.2.1,.val (zd (zh .i64)) s.2.2.2.1,.val (zd (zh .i64)) s.2.2.2.2])])) (λb=>(.exit 0,λg=>([],[(.ptr b9 0,.box [.val (zd z5) l_1.1.1,.val (zd (zh .i64)) l_1.1.2.1,.val (zd (zh .i64)) l_1.1.2.2.1,.val (zd z5) l_1.2.1.1,.val (zd (zh .i64)) l_1.2.1.2.1,.val (zd (zh .i64)) l_1.2.1.2.2.1,vI l_1.2.2.1.1,vI l_1.2.2.1.2.1,vI l_1.2.2.1.2.2.1,vI l_1.2.2.1.2.2.2.1,vI l_1.2.2.1.2.2.2.2.1,vI l_1.2.2.1.2.2.2.2.2.1,vI l_1.2.2.1.2.2.2.2.2.2.1,vI l_1.2.2.1.2.2.2.2.2.2.2.1,vI l_1.2.2.1.2.2.2.2.2.2.2.2.1,.val (zd (zh .i64)) l_1.2.2.1.2.2.2.2.2.2.2.2.2.1,vI l_1.2.2.2.1,vI l_1.2.2.2.2.1,.val (zd (zh .i64)) b.1,.val (zd (zh .i64)) b.2.1,.val (zd (zh .i64)) b.2.2.1,.val (zd (zh .i64)) b.2.2.2])]))) (λb=>(.ret,λg=>([(4,.val (ze2 zp) b.1),(5,vB b.2.1)],[]))) [] (λsa gb _ ho=>?_) (λba ho ga=>?_) λbb ho ga=>?_
     . refine gct ho (λhe ho=>?_) λhe ho=>?_
       . obtain ⟨xa,hh,ho⟩:=bnd ho;refine gal λbc=>?_;refine gfz 2 zcU xa 0 [8] ?_;refine gcl ho λya hi ho=>?_;intro va vb;show zm ..;obtain ⟨xb,ha,ho⟩:=bnd ho;refine run 6 ?_;refine zri ia' rfl ha (.n rfl) rfl rfl (.t rfl) (.t rfl) ?_;refine zeM (zid 0 [37] rfl rfl ⟨rfl,trivial⟩) ?_;refine znc (es':=[.val (zd z5) l_1.1.1,.val (zd (zh .i64)) l_1.1.2.1,.val (zd (zh .i64)) l_1.1.2.2.1,.val (zd z5) l_1.2.1.1,.val (zd (zh .i64)) l_1.2.1.2.1,.val (zd (zh .i64)) l_1.2.1.2.2.1,vI l_1.2.2.1.1,vI l_1.2.2.1.2.1,vI l_1.2.2.1.2.2.1,vI l_1.2.2.1.2.2.2.1,vI l_1.2.2.1.2.2.2.2.1,vI l_1.2.2.1.2.2.2.2.2.1,vI l_1.2.2.1.2.2.2.2.2.2.1,vI l_1.2.2.1.2.2.2.2.2.2.2.1,vI l_1.2.2.1.2.2.2.2.2.2.2.2.1,.val (zd (zh .i64)) l_1.2.2.1.2.2.2.2.2.2.2.2.2.1,vI l_1.2.2.2.1,vI l_1.2.2.2.2.1,.val (zd (zh .i64)) (cond (sa.1==0) ya.1 sa.2.1),.val (zd (zh .i64)) (cond (sa.1==1) ya.1 sa.2.2.1),.val (zd (zh .i64)) sa.2.2.2.1,.val (zd (zh .i64)) sa.2.2.2.2]) 1 (U27).sz rfl (zum ha (by exact Nat.le_of_ble_eq_true rfl)) (by rcases ix2 ha with e_ | e_<;>rw [e_]<;>rfl) (.n rfl) rfl rfl (.t rfl) (.t rfl) rfl rfl ?_;obtain ⟨xd,hc,ho⟩:=bnd ho;refine run 2 ?_;refine zri ia' rfl hc (.n rfl) rfl rfl (.t rfl) (.t rfl) ?_;refine zeM (zid 0 [38] rfl rfl ⟨rfl,trivial⟩) ?_;refine znc (es':=[.val (zd z5) l_1.1.1,.val (zd (zh .i64)) l_1.1.2.1,.val (zd (zh .i64)) l_1.1.2.2.1,.val (zd z5) l_1.2.1.1,.val (zd (zh .i64)) l_1.2.1.2.1,.val (zd (zh .i64)) l_1.2.1.2.2.1,vI l_1.2.2.1.1,vI l_1.2.2.1.2.1,vI l_1.2.2.1.2.2.1,vI l_1.2.2.1.2.2.2.1,vI l_1.2.2.1.2.2.2.2.1,vI l_1.2.2.1.2.2.2.2.2.1,vI l_1.2.2.1.2.2.2.2.2.2.1,vI l_1.2.2.1.2.2.2.2.2.2.2.1,vI l_1.2.2.1.2.2.2.2.2.2.2.2.1,.val (zd (zh .i64)) l_1.2.2.1.2.2.2.2.2.2.2.2.2.1,vI l_1.2.2.2.1,vI l_1.2.2.2.2.1,.val (zd (zh .i64)) (cond (sa.1==0) ya.1 sa.2.1),.val (zd (zh .i64)) (cond (sa.1==1) ya.1 sa.2.2.1),.val (zd (zh .i64)) (cond (sa.1==0) ya.2.1 sa.2.2.2.1),.val (zd (zh .i64)) (cond (sa.1==1) ya.2.1 sa.2.2.2.2)]) 0 (U27).sz rfl (zum hc (by exact Nat.le_of_ble_eq_true rfl)) (by rcases ix2 hc with e_ | e_<;>rw [e_]<;>rfl) (.n rfl) rfl rfl (.t rfl) (.t rfl) rfl rfl ?_
         refine gct ho (λhf ho=>?_) λhf ho=>?_
         . refine run 2 ?_;refine zam rfl (.n rfl) rfl (e:=.val (ze2 zp) none) (λz fr h s=>⟨_,rfl,zb4⟩) ?_;exact we ho
         . exact lv [] [0] ho
       . exact lv [] [0] ho
     . refine run 6 ?_;cases ho;refine zn1 (zdo (R:=zp) (a:=(((l_1.1.1,l_1.1.2.1,l_1.1.2.2.1,()),(l_1.2.1.1,l_1.2.1.2.1,l_1.2.1.2.2.1,()),(l_1.2.2.1.1,l_1.2.2.1.2.1,l_1.2.2.1.2.2.1,l_1.2.2.1.2.2.2.1,l_1.2.2.1.2.2.2.2.1,l_1.2.2.1.2.2.2.2.2.1,l_1.2.2.1.2.2.2.2.2.2.1,l_1.2.2.1.2.2.2.2.2.2.2.1,l_1.2.2.1.2.2.2.2.2.2.2.2.1,l_1.2.2.1.2.2.2.2.2.2.2.2.2.1,()),l_1.2.2.2.1,l_1.2.2.2.2.1,()),[ba.1,ba.2.1],[ba.2.2.1,ba.2.2.2],())) 0 [6,49,4] (zq (zq (zq (zB rfl) (zq (zB rfl) (zq (zB rfl) zb0 rfl) rfl) rfl) (zq (zq (zB rfl) (zq (zB rfl) (zq (zB rfl) zb0 rfl) rfl) rfl) (zq (zq (zB rfl) (zq (zB rfl) (zq (zB rfl) (zq (zB rfl) (zq (zB rfl) (zq (zB rfl) (zq (zB rfl) (zq (zB rfl) (zq (zB rfl) (zq (zB rfl) zb0 rfl) rfl) rfl) rfl) rfl) rfl) rfl) rfl) rfl) rfl) (zq (zB rfl) (zq (zB rfl) zb0 rfl) rfl) rfl) rfl) rfl) (zq (ziL rfl) (zq (ziL rfl) zb0 rfl) rfl) rfl) rfl rfl ⟨rfl,rfl,rfl,trivial⟩) ?_;refine zn1 (zkd (n:=4) rfl) ?_;exact zea (zcZ (.inr rfl) (.v rfl (.v rfl .n)) (by decide))
     . exact rv ho⟩
instance i59 {p_0 l_1}:FI ktab 59 (zde p_0 l_1) [.val zbJ p_0,.val (zd ze3) l_1] (λout=>[.row (zS zp) out.1,wB out.2]):=⟨λout ho=>by
 delta zde at ho;refine fn λ_ _=>?_;refine gnr (zS zp) ?_;refine gcl ho λy1 hy1 ho=>?_;refine gct ho (λhq2 ho=>?_) λhq2 ho=>?_
 . refine gnr (zS zp) ?_;exact we ho
 . refine gnr (zS zp) ?_;obtain ⟨ta,ha,ho⟩:=bnd ho;refine gl2 ha ho [2,15,16] [] [0] (λs g=>([(6,.raw (gh g 0)),(17,vI s.2)],[((gh g 0),.row (zS zp) s.1)])) (λb=>(.exit 0,λg=>([(6,.raw (gh g 0))],[((gh g 0),.row (zS zp) b)]))) (λb=>(.ret,λg=>([(4,.raw (gh g 0)),(5,vB b.2)],[((gh g 0),.row (zS zp) b.1)]))) [.nilslice] (λsa ga _ ho=>?_) (λba ho gb=>?_) λbb ho gb=>?_
   . refine gct ho (λhc ho=>?_) λhc ho=>?_
     . obtain ⟨xa,hf,ho⟩:=bnd ho;refine gal λbc=>?_;refine gfz 1 ze3 xa 0 [8] ?_;refine gcl ho λya hg ho=>?_;refine gct ho (λhd ho=>?_) λhd ho=>?_
       . refine gnr (zS zp) ?_;exact lv [.nilslice] [0] ho
       . obtain ⟨pa,he,ho⟩:=bnd ho;refine run 4 ?_;refine zeM (zct (n:=30) he rfl) ?_;obtain ⟨xb,hh,ho⟩:=bnd ho;refine gap λva=>?_;exact lv [va] [0] ho
     . exact lv [(gh ga 0)] [0] ho
   . exact we ho
   . exact rv ho⟩
instance i29 {p_0 s_1}:FI ktab 29 (zcx p_0 s_1) [.val zbJ p_0,.val zc0 s_1] (λout=>[.val (zd (zS zp)) out.1,wB out.2]):=⟨λout ho=>by
 delta zcx at ho;refine fn λ_ _=>?_;refine run 4 ?_;refine zd7 (.n rfl) rfl rfl (.nil (R:=(zS zp))) ?_;obtain ⟨c2,hc2,ho⟩:=bnd ho;refine run 4 ?_;refine gcx c2 [2,3] [] (λt=>(.normal,λ_=>([(23,vB t)],[]))) ?_ λ_=>?_
 . exact we hc2
 . refine gct ho (λhq4 ho=>?_) λhq4 ho=>?_
   . refine run 2 ?_;refine zd7 (.n rfl) rfl rfl (.nil (R:=(zS zp))) ?_;exact we ho
   . obtain ⟨ta,ha,ho⟩:=bnd ho;refine gl2 ha ho [2,3,25,26] [] [] (λs g=>([(27,vI s)],[])) (λb=>(.exit 0,λg=>([],[]))) (λb=>(.ret,λg=>([(4,.val (zd (zS zp)) b.1),(5,vB b.2)],[]))) [] (λsa gb _ ho=>?_) (λba ho ga=>?_) λbb ho ga=>?_
     . refine gct ho (λhc ho=>?_) λhc ho=>?_
       . obtain ⟨xa,hf,ho⟩:=bnd ho;refine gcl ho λya hg ho=>?_;refine wbr ho (λhd ho=>?_) λhd ho=>?_
         . refine gk ?_;refine run 2 ?_;refine zd7 (.n rfl) rfl rfl (.nil (R:=(zS zp))) ?_;exact we ho
         . obtain ⟨xb,hh,ho⟩:=bnd ho;refine gcl ho λyb hi ho=>?_;refine gct ho (λhe ho=>?_) λhe ho=>?_
           . refine run 2 ?_;refine zd7 (.n rfl) rfl rfl (.nil (R:=(zS zp))) ?_;exact we ho
           . exact we ho
       . exact lv [] [] ho
     . refine gcl ho λyc hj ho=>?_;intro va;show zm ..;refine run 5 ?_;cases ho;refine zn1 (zid 0 [51,4] rfl rfl ⟨rfl,rfl,trivial⟩) ?_;exact zea (zcZ (.inr rfl) (.v rfl (.v rfl .n)) (by decide))
     . exact rv ho⟩
instance i50 {n_0 low_1 high_2}:FI ktab 50 (z8 n_0 low_1 high_2) [vI n_0,vI low_1,vI high_2] (λout=>[wB out]):=⟨λout ho=>by
 delta z8 at ho;refine fn λ_ _=>?_;obtain ⟨c2,hc2,ho⟩:=bnd ho;refine run 5 ?_;refine gcx c2 [] [] (λt=>(.normal,λ_=>([(6,vB t)],[]))) ?_ λ_=>?_
 . exact we hc2
 . exact rv ho⟩
instance i51 {s_0}:FI ktab 51 (zbd s_0) [.val zcj s_0] (λout=>[wB out]):=⟨λout ho=>by
 delta zbd at ho;refine fn λ_ _=>?_;obtain ⟨c4,hc4,ho⟩:=bnd ho;refine run 6 ?_;refine gcx c4 [] [] (λt=>(.normal,λ_=>([(2,vB t)],[]))) ?_ λ_=>?_
 . exact we hc4
 . exact rv ho⟩
instance i52 {k_0}:FI ktab 52 (zaD k_0) [vI k_0] (λout=>[wI out]):=⟨λout ho=>by
 delta zaD at ho;refine fn λ_ _=>?_;refine gct ho (λhq1 ho=>?_) λhq1 ho=>?_
 . exact we ho
 . refine gct ho (λhq2 ho=>?_) λhq2 ho=>?_
   . exact we ho
   . refine gct ho (λhq3 ho=>?_) λhq3 ho=>?_
     . exact we ho
     . refine gct ho (λhq4 ho=>?_) λhq4 ho=>?_
       . refine gct ho (λhq5 ho=>?_) λhq5 ho=>?_
         . exact we ho
         . exact Bool.noConfusion (hq4.symm.trans hq5)
       . refine gct ho (λhq6 ho=>?_) λhq6 ho=>?_
         . refine gct ho (λhq7 ho=>?_) λhq7 ho=>?_
           . exact we ho
           . exact Bool.noConfusion (hq6.symm.trans hq7)
         . exact we ho⟩
instance i53 {p_0 rail_1}:FI ktab 53 (zdf p_0 rail_1) [.val zbJ p_0,vI rail_1] (λout=>[.row zcj out]):=⟨λout ho=>by
 delta zdf at ho;refine fn λ_ _=>?_;refine gnr zcj ?_;obtain ⟨x1,hx1,ho⟩:=bnd ho;refine gal λb2=>?_;refine gfz 1 zex x1 0 [5] ?_;obtain ⟨x3,hx3,ho⟩:=bnd ho;refine run 10 ?_;refine zuV (R:=zcj) is' iy' (.n rfl) rfl rfl (.c (.t rfl) .n) rfl (by decide) ?_;intro v4;obtain ⟨x5,hx5,ho⟩:=bnd ho;refine gap λv6=>?_;obtain ⟨x7,hx7,x8,hx8,ho⟩:=zfI ho;refine gap λv9=>?_;exact we ho⟩
instance i95 {n_0}:FI ktab 95 (zeU n_0) [vI n_0] (λout=>[wI out]):=⟨λout ho=>by
 delta zeU at ho;refine fn λ_ _=>?_;obtain ⟨t9,ht9,ho⟩:=bnd ho;refine glp ht9 [0] [] [] (λs g=>([(3,vI s.1),(4,vI s.2)],[])) (λb=>(.exit 0,λg=>([(3,vI b)],[]))) [] (λs4 g5 _ ho=>?_) λga=>?_
 . exact we ho
 . exact we ho⟩
instance i54 {a_0 b_1}:FI ktab 54 (zdg a_0 b_1) [.val zcj a_0,.val zcj b_1] (λout=>[wI out]):=fw
instance i55 {p_0 e_1}:FI ktab 55 (zfn p_0 e_1) [.val zbJ p_0,.val zQ e_1] (λout=>[wI out]):=fw
instance i24 {p_0}:FI ktab 24 (zdt p_0) [.val zbJ p_0] (λout=>[wB out]):=⟨λout ho=>by
 delta zdt at ho;refine fn λ_ _=>?_;obtain ⟨c4,hc4,ho⟩:=bnd ho;refine run 7 ?_;refine gcx c4 [1] [] (λt=>(.normal,λ_=>([(27,vB t)],[]))) ?_ λ_=>?_
 . exact we hc4
 . refine gct ho (λhq8 ho=>?_) λhq8 ho=>?_
   . exact we ho
   . obtain ⟨ta,ha,ho⟩:=bnd ho;refine gl2 ha ho [1] [] [] (λs g=>([(3,vI s)],[])) (λb=>(.exit 0,λg=>([],[]))) (λb=>(.ret,λg=>([(2,vB b)],[]))) [] (λsb gl _ ho=>?_) (λba ho gd=>?_) λbb ho gd=>?_
     . refine gct ho (λhc ho=>?_) λhc ho=>?_
       . obtain ⟨xa,hL,ho⟩:=bnd ho;refine gal λbc=>?_;refine gfz 1 zb5 xa 0 [4] ?_;refine wbr ho (λhd ho=>?_) λhd ho=>?_
         . refine gk ?_;refine gcl ho λyb hM ho=>?_;refine gcl ho λyc hN ho=>?_;refine wbr ho (λhe ho=>?_) λhe ho=>?_
           . refine gk ?_;exact we ho
           . refine gcl ho λyd hO ho=>?_;refine wbr ho (λhf ho=>?_) λhf ho=>?_
             . refine gk ?_;exact we ho
             . refine gcl ho λye hP ho=>?_;refine wbr ho (λhg ho=>?_) λhg ho=>?_
               . refine gk ?_;exact we ho
               . refine run 3 ?_;exact we ho
         . refine gct ho (λhh ho=>?_) λhh ho=>?_
           . refine gcl ho λyf hQ ho=>?_;refine gcl ho λyg hR ho=>?_;refine wbr ho (λhi ho=>?_) λhi ho=>?_
             . refine gk ?_;exact we ho
             . refine gcl ho λyh hS ho=>?_;refine wbr ho (λhj ho=>?_) λhj ho=>?_
               . refine gk ?_;exact we ho
               . refine gcl ho λyi hT ho=>?_;refine wbr ho (λhk ho=>?_) λhk ho=>?_
                 . refine gk ?_;exact we ho
                 . exact we ho
           . refine gcl ho λyj hU ho=>?_;refine wbr ho (λhl ho=>?_) λhl ho=>?_
             . refine gk ?_;exact we ho
             . refine gcl ho λyk hV ho=>?_;refine wbr ho (λhm ho=>?_) λhm ho=>?_
               . refine gk ?_;exact we ho
               . refine gcl ho λyl hW ho=>?_;refine wbr ho (λhn ho=>?_) λhn ho=>?_
                 . refine gk ?_;exact we ho
                 . exact we ho
       . exact lv [] [] ho
     . obtain ⟨tb,hp,ho⟩:=bnd ho;refine gl2 hp ho [1] [] [] (λs g=>([(6,vI s)],[])) (λb=>(.exit 2,λg=>([],[]))) (λb=>(.ret,λg=>([(2,vB b)],[]))) [] (λsc gm _ ho=>?_) (λbd ho ge=>?_) λbe ho ge=>?_
       . refine gct ho (λhr ho=>?_) λhr ho=>?_
         . obtain ⟨xb,hX,ho⟩:=bnd ho;refine gal λbf=>?_;refine gfz 1 zex xb 0 [7] ?_;refine gcl ho λym hY ho=>?_;refine wbr ho (λhs ho=>?_) λhs ho=>?_
           . refine gk ?_;exact we ho
           . refine gcl ho λyn hZ ho=>?_;refine wbr ho (λht ho=>?_) λht ho=>?_
             . refine gk ?_;exact we ho
             . refine wbr ho (λhu ho=>?_) λhu ho=>?_
               . refine gk ?_;exact we ho
               . refine gcl ho λyo haa ho=>?_;refine wbr ho (λhv ho=>?_) λhv ho=>?_
                 . refine gk ?_;exact we ho
                 . refine gcl ho λyp hab ho=>?_;refine gct ho (λhw ho=>?_) λhw ho=>?_
                   . exact we ho
                   . obtain ⟨tc,hy,ho⟩:=bnd ho;refine gl2 hy ho [1,6,7,98,99,100,101,102,103,104,105,108,109,110,111,114,115,116,117,120,121,122,123] [] [] (λs g=>([(8,vI s)],[])) (λb=>(.exit 4,λg=>([],[]))) (λb=>(.ret,λg=>([(2,vB b)],[]))) [] (λsd gn _ ho=>?_) (λbg ho gf=>?_) λbh ho gf=>?_
                     . exact we ho
                     . refine gcl ho λya hac ho=>?_;intro va;show zm ..;obtain ⟨td,hz,ho⟩:=bnd ho;refine gl2 hz ho [1,6,9,98,99,100,101,102,103,104,105,108,109,110,111,114,115,116,117,120,121,122,123] [] [0] (λs g=>([(10,vI s)],[(va,.row zcj ya)])) (λb=>(.exit 6,λg=>([],[]))) (λb=>(.ret,λg=>([(2,vB b)],[]))) [] (λse gp _ ho=>?_) (λbi ho gg=>?_) λbj ho gg=>?_
                       . refine gct ho (λhA ho=>?_) λhA ho=>?_
                         . refine run 4 ?_;refine zao [4,8] (by kernel_rfl) ?_;obtain ⟨xe,had,xf,hae,ho⟩:=zfI ho;refine gcl ho λyq haf ho=>?_;refine gcl ho λyr hag ho=>?_;refine gct ho (λhB ho=>?_) λhB ho=>?_
                           . exact we ho
                           . exact lv [] [0] ho
                         . exact lv [] [] ho
                       . exact we ho
                       . cases ho; exact id (lf [] [])
                     . cases ho; exact id (lf [] [])
         . exact lv [] [] ho
       . refine gnr zQ ?_;obtain ⟨te,hC,ho⟩:=bnd ho;refine gl2 hC ho [1] [] [0] (λs g=>([(11,.raw (gh g 0)),(12,vI s.2)],[((gh g 0),.row zQ s.1)])) (λb=>(.exit 8,λg=>([(11,.raw (gh g 0))],[((gh g 0),.row zQ b)]))) (λb=>(.ret,λg=>([(2,vB b)],[]))) [.nilslice] (λsf gb _ ho=>?_) (λbk ho gi=>?_) λbl ho gi=>?_
         . refine gct ho (λhD ho=>?_) λhD ho=>?_
           . obtain ⟨tf,hE,ho⟩:=bnd ho;refine gl2 hE ho [1,12] [] [0] (λs g=>([(11,.raw (gh g 0)),(13,vI s.2)],[((gh g 0),.row zQ s.1)])) (λb=>(.exit 10,λg=>([(11,.raw (gh g 0))],[((gh g 0),.row zQ b)]))) (λb=>(.ret,λg=>([(2,vB b)],[]))) [(gh gb 0)] (λsa ga _ ho=>?_) (λbm ho gc=>?_) λbn ho gc=>?_
             . obtain ⟨xg,hah,ho⟩:=bnd ho;refine gct ho (λhF ho=>?_) λhF ho=>?_
               . obtain ⟨xh,hai,xd,haj,ho⟩:=zfI ho;refine gal λbo=>?_;refine gfz 1 zQ xd 0 [14] ?_;refine gcl ho λys hak ho=>?_;refine wbr ho (λhG ho=>?_) λhG ho=>?_
                 . refine gk ?_;exact we ho
                 . refine gcl ho λyt hal ho=>?_;refine gct ho (λhH ho=>?_) λhH ho=>?_
                   . exact we ho
                   . obtain ⟨tg,hI,ho⟩:=bnd ho;refine gl2 hI ho [1,11,12,13,14,196,197,198,199,200] [] [0] (λs g=>([(15,vI s)],[((gh ga 0),.row zQ sa.1)])) (λb=>(.exit 12,λg=>([],[((gh ga 0),.row zQ sa.1)]))) (λb=>(.ret,λg=>([(2,vB b)],[]))) [] (λsg gq _ ho=>?_) (λbp ho gj=>?_) λbq ho gj=>?_
                     . refine gct ho (λhJ ho=>?_) λhJ ho=>?_
                       . refine run 4 ?_;refine zao [3] (by kernel_rfl) ?_;obtain ⟨xi,ham,ho⟩:=bnd ho;refine gct ho (λhK ho=>?_) λhK ho=>?_
                         . exact we ho
                         . exact lv [] [0] ho
                       . exact lv [] [0] ho
                     . obtain ⟨xj,han,ho⟩:=bnd ho;refine gap λvb=>?_;exact lv [vb] [0] ho
                     . cases ho; exact id (lf [] [])
               . exact lv [(gh ga 0)] [0] ho
             . exact lv [(gh gc 0)] [0] ho
             . cases ho; exact id (lf [] [])
           . exact lv [(gh gb 0)] [0] ho
         . exact we ho
         . exact rv ho
       . exact rv ho
     . exact rv ho⟩
instance i25 {n_0 low_1 high_2}:FI ktab 25 (zcT n_0 low_1 high_2) [vI n_0,vI low_1,vI high_2] (λout=>[wB out]):=⟨λout ho=>by
 delta zcT at ho;refine fn λ_ _=>?_;obtain ⟨c2,hc2,ho⟩:=bnd ho;refine run 5 ?_;refine gcx c2 [] [] (λt=>(.normal,λ_=>([(6,vB t)],[]))) ?_ λ_=>?_
 . exact we hc2
 . exact rv ho⟩
instance i57 {l_0 home_1}:FI ktab 57 (zeF l_0 home_1) [.val ze3 l_0,vB home_1] (λout=>[.val zcU out]):=fw
instance i124 {p_0 m_1}:FI ktab 124 (zeV p_0 m_1) [.val zbJ p_0,.val z5 m_1] (λout=>[wB out]):=fw
instance i145 {m_0}:FI ktab 145 (zfC m_0) [.val z5 m_0] (λout=>[.val zQ out]):=fw
instance i146 {n_0 e_1}:FI ktab 146 (zdu n_0 e_1) [.val zb5 n_0,.val zQ e_1] (λout=>[wI out]):=⟨λout ho=>by
 delta zdu at ho;refine fn λ_ _=>?_;obtain ⟨ta,ha,ho⟩:=bnd ho;refine gl2 ha ho [2,3] [] [] (λs g=>([(5,vI s)],[])) (λb=>(.exit 0,λg=>([],[]))) (λb=>(.ret,λg=>([(4,vI b)],[]))) [] (λs5 g6 _ ho=>?_) (λba ho ga=>?_) λbb ho ga=>?_
 . exact we ho
 . exact we ho
 . exact rv ho⟩
instance i147 {m_0}:FI ktab 147 (zhx m_0) [.val z5 m_0] (λout=>[.val zQ out]):=fw
instance i148 {n_0 a_1 b_2}:FI ktab 148 (zeW n_0 a_1 b_2) [.val zb5 n_0,vI a_1,vI b_2] (λout=>[wB out]):=⟨λout ho=>by
 delta zeW at ho;refine fn λ_ _=>?_;refine gct ho (λhq1 ho=>?_) λhq1 ho=>?_
 . exact we ho
 . refine gct ho (λhq2 ho=>?_) λhq2 ho=>?_
   . obtain ⟨c5,hc5,ho⟩:=bnd ho;refine run 1 ?_;refine gcx c5 [] [] (λt=>(.normal,λ_=>([(6,vB t)],[]))) ?_ λ_=>?_
     . exact we hc5
     . exact rv ho
   . refine gct ho (λhq8 ho=>?_) λhq8 ho=>?_
     . obtain ⟨ca,ha,ho⟩:=bnd ho;refine run 1 ?_;refine gcx ca [] [] (λt=>(.normal,λ_=>([(6,vB t)],[]))) ?_ λ_=>?_
       . exact we ha
       . exact rv ho
     . refine gct ho (λhc ho=>?_) λhc ho=>?_
       . obtain ⟨cc,hd,ho⟩:=bnd ho;refine run 1 ?_;refine gcx cc [] [] (λt=>(.normal,λ_=>([(6,vB t)],[]))) ?_ λ_=>?_
         . exact we hd
         . exact rv ho
       . refine gct ho (λhe ho=>?_) λhe ho=>?_
         . obtain ⟨cd,hf,ho⟩:=bnd ho;refine run 1 ?_;refine gcx cd [] [] (λt=>(.normal,λ_=>([(6,vB t)],[]))) ?_ λ_=>?_
           . exact we hf
           . exact rv ho
         . exact we ho⟩
instance i125 {p_0 m_1 n_2}:FI ktab 125 (zcy p_0 m_1 n_2) [.val zbJ p_0,.val z5 m_1,.val z5 n_2] (λout=>[wB out]):=⟨λout ho=>by
 delta zcy at ho;refine fn λ_ _=>?_;refine gcl ho λy3 hy3 ho=>?_;refine gcl ho λy4 hy4 ho=>?_;obtain ⟨x5,hx5,ho⟩:=bnd ho;refine gal λb6=>?_;refine gfz 1 zb5 x5 0 [8] ?_;refine gcl ho λya hc ho=>?_;refine gcl ho λyb hd ho=>?_;refine gcl ho λyc he ho=>?_;refine gcl ho λyd hf ho=>?_;obtain ⟨ca,ha,ho⟩:=bnd ho;refine run 4 ?_;refine gcx ca [] [] (λt=>(.normal,λ_=>([(6,vB t)],[]))) ?_ λ_=>?_
 . exact we ha
 . exact rv ho⟩
instance i96 {p_0 l_1}:FI ktab 96 (zeA p_0 l_1) [.val zbJ p_0,.val (zd z5) l_1] (λout=>[wB out]):=⟨λout ho=>by
 delta zeA at ho;refine fn λ_ _=>?_;obtain ⟨ta,ha,ho⟩:=bnd ho;refine gl2 ha ho [1,2] [] [] (λs g=>([(5,vI s)],[])) (λb=>(.exit 0,λg=>([],[]))) (λb=>(.ret,λg=>([(4,vB b)],[]))) [] (λsa gb _ ho=>?_) (λba ho ga=>?_) λbb ho ga=>?_
 . refine gct ho (λhc ho=>?_) λhc ho=>?_
   . obtain ⟨xa,hf,ho⟩:=bnd ho;refine gcl ho λya hg ho=>?_;refine wbr ho (λhd ho=>?_) λhd ho=>?_
     . refine gk ?_;exact we ho
     . refine wbr ho (λhe ho=>?_) λhe ho=>?_
       . refine run 5 ?_;exact we ho
       . refine gk ?_;exact we ho
   . exact lv [] [] ho
 . exact we ho
 . exact rv ho⟩
instance i126 {p_0 rail_1}:FI ktab 126 (zaW p_0 rail_1) [.val zbJ p_0,vI rail_1] (λout=>[wI out]):=⟨λout ho=>by
 delta zaW at ho;refine fn λ_ _=>?_;refine gcl ho λy1 hy1 ho=>?_;intro v2;show zm ..;obtain ⟨ta,ha,ho⟩:=bnd ho;refine glp ha [5] [] [0] (λs g=>([(6,vI s.1),(7,vI s.2)],[(v2,.row zcj y1)])) (λb=>(.exit 0,λg=>([(6,vI b)],[]))) [] (λsa ga _ ho=>?_) λgb=>?_
 . refine gct ho (λhc ho=>?_) λhc ho=>?_
   . refine run 3 ?_;refine zao [5,9] (by kernel_rfl) ?_;obtain ⟨xa,hd,xb,he,ho⟩:=zfI ho;refine gcl ho λya hf ho=>?_;exact lv [] [0] ho
   . exact lv [] [] ho
 . exact we ho⟩
instance i97 {p_0 l_1}:FI ktab 97 (zbQ p_0 l_1) [.val zbJ p_0,.val (zd z5) l_1] (λout=>[wI out]):=⟨λout ho=>by
 delta zbQ at ho;refine fn λ_ _=>?_;obtain ⟨ta,ha,ho⟩:=bnd ho;refine glp ha [1,2] [] [] (λs g=>([(5,vI s.1),(6,vI s.2)],[])) (λb=>(.exit 0,λg=>([(5,vI b)],[]))) [] (λs6 g7 _ ho=>?_) λga=>?_
 . exact we ho
 . exact we ho⟩
instance i150 {x_0 low_1 high_2}:FI ktab 150 (zbb x_0 low_1 high_2) [vI x_0,vI low_1,vI high_2] (λout=>[wB out]):=⟨λout ho=>by
 delta zbb at ho;refine fn λ_ _=>?_;obtain ⟨c2,hc2,ho⟩:=bnd ho;refine run 5 ?_;refine gcx c2 [] [] (λt=>(.normal,λ_=>([(6,vB t)],[]))) ?_ λ_=>?_
 . exact we hc2
 . exact rv ho⟩
instance i149 {t_0}:FI ktab 149 (zeh t_0) [.val zbG t_0] (λout=>[wB out]):=⟨λout ho=>by
 delta zeh at ho;refine fn λ_ _=>?_;obtain ⟨ca,ha,ho⟩:=bnd ho;refine run 7 ?_;refine gcx ca [1] [] (λt=>(.normal,λ_=>([(62,vB t)],[]))) ?_ λ_=>?_
 . exact we ha
 . refine gct ho (λhc ho=>?_) λhc ho=>?_
   . exact we ho
   . obtain ⟨ta,hd,ho⟩:=bnd ho;refine gl2 hd ho [1] [] [] (λs g=>([(3,vI s)],[])) (λb=>(.exit 0,λg=>([],[]))) (λb=>(.ret,λg=>([(2,vB b)],[]))) [] (λsa gb _ ho=>?_) (λba ho ga=>?_) λbb ho ga=>?_
     . exact we ho
     . exact we ho
     . exact rv ho⟩
end Go.Ai.TabYtghlaibcihhbcaaGreat