/- Written by program: walks through functions. -/
import Derived.Test.YtghlaibcihhbcaaGreatK11
set_option linter.unusedSimpArgs false
set_option linter.unusedVariables false
set_option linter.unusedSectionVars false
namespace Go.Ai.TabYtghlaibcihhbcaaGreat
open Go Go.Ai Go.Ai.Sx Go.Proofs
attribute [local irreducible] zm
set_option maxRecDepth 100000
set_option maxHeartbeats 4000000
instance i22 {n_0 low_1 high_2}:FI ktab 22 (zaI n_0 low_1 high_2) [vI n_0,vI low_1,vI high_2] (λout=>[wB out]):=⟨λout ho=>by
 delta zaI at ho;refine fn λ_ _=>?_;obtain ⟨c2,hc2,ho⟩:=bnd ho;refine run 5 ?_;refine gcx c2 [] [] (λt=>(.normal,λ_=>([(6,vB t)],[]))) ?_ λ_=>?_
 . exact we hc2
 . exact rv ho⟩
instance i113 {s_0 f_1}:FI ktab 113 (zbf s_0 f_1) [.val (zd (zh .i64)) s_0,.val (rFn ktab (Int) (Bool) (λx=>[.val (zh .i64) (x)]) (λy=>[.val zu (y)])) f_1] (λout=>[wI out]):=⟨λout ho=>by
 delta zbf at ho;refine fn λ_ _=>?_;obtain ⟨ta,ha,ho⟩:=bnd ho;refine gl2 ha ho [0,1,7] [] [] (λs g=>([(8,vI s)],[])) (λb=>(.exit 0,λg=>([],[]))) (λb=>(.ret,λg=>([(4,vI b)],[]))) [] (λs5 g6 _ ho=>?_) (λba ho ga=>?_) λbb ho ga=>?_
 . refine gct ho (λhq7 ho=>?_) λhq7 ho=>?_
   . obtain ⟨x8,hx8,y9,hy9,ho⟩:=zfI ho;refine gcv hy9 ?_;exact we ho
   . exact lv [] [] ho
 . exact we ho
 . exact rv ho⟩
instance i75 {s_0 f_1}:FI ktab 75 (zad s_0 f_1) [.val (zd (zh .i64)) s_0,.val (rFn ktab (Int) (Bool) (λx=>[.val (zh .i64) (x)]) (λy=>[.val zu (y)])) f_1] (λout=>[wB out]):=fw
instance i76 {d_0}:FI ktab 76 (zhw d_0) [vI d_0] (λout=>[wB out]):=fw
instance i40 {tasks_0 y_1}:FI ktab 40 (zfS tasks_0 y_1) [.val (zd zby) tasks_0,.val zih y_1] (λout=>[wI out]):=⟨λout ho=>by
 delta zfS at ho;refine fn λ_ _=>?_;obtain ⟨c6,hc6,ho⟩:=bnd ho;refine run 14 ?_;refine gcx c6 [0,3,5] [] (λt=>(.normal,λ_=>([(33,vB t)],[]))) ?_ λ_=>?_
 . exact we hc6
 . refine gct ho (λhc ho=>?_) λhc ho=>?_
   . exact we ho
   . obtain ⟨ta,hd,ho⟩:=bnd ho;refine gl2 hd ho [0,5,35,36] [] [] (λs g=>([(37,vI s)],[])) (λb=>(.exit 0,λg=>([],[]))) (λb=>(.ret,λg=>([(4,vI b)],[]))) [] (λsa gc _ ho=>?_) (λba ho ga=>?_) λbb ho ga=>?_
     . refine gct ho (λhe ho=>?_) λhe ho=>?_
       . obtain ⟨xb,hr,ho⟩:=bnd ho;refine wbr ho (λhg ho=>?_) λhg ho=>?_
         . refine gk ?_;exact we ho
         . obtain ⟨xd,hs,ho⟩:=bnd ho;refine wbr ho (λha ho=>?_) λha ho=>?_
           . refine gk ?_;exact we ho
           . obtain ⟨ya,hh,ho⟩:=bnd ho;refine run 26 ?_;refine zgZ (i75.ok _ hh) (.v zgY .n) rfl (.g rfl rfl (gf0 ha)) rfl rfl rfl .f (.c (.o (.t rfl)) (.c (.o (.fv (zgJ (λx y hf=>i76.ok _ hf) rfl))) .n)) ?_;exact we ho
       . exact lv [] [] ho
     . obtain ⟨tb,hi,ho⟩:=bnd ho;refine gl2 hi ho [0,5,58,59] [] [] (λs g=>([(60,vI s)],[])) (λb=>(.exit 2,λg=>([],[]))) (λb=>(.ret,λg=>([(4,vI b)],[]))) [] (λsb gd _ ho=>?_) (λbc ho gb=>?_) λbd ho gb=>?_
       . refine gct ho (λhj ho=>?_) λhj ho=>?_
         . obtain ⟨xa,ht,ho⟩:=bnd ho;refine gal λbe=>?_;refine gfz 2 zby xa 0 [9] ?_;refine gcl ho λyb hu ho=>?_;refine wbr ho (λhk ho=>?_) λhk ho=>?_
           . refine gk ?_;exact we ho
           . refine gcl ho λyc hv ho=>?_;refine wbr ho (λhl ho=>?_) λhl ho=>?_
             . refine gk ?_;exact we ho
             . refine gcl ho λyd hw ho=>?_;refine wbr ho (λhm ho=>?_) λhm ho=>?_
               . refine gk ?_;exact we ho
               . refine wbr ho (λhn ho=>?_) λhn ho=>?_
                 . refine gk ?_;exact we ho
                 . refine wbr ho (λhp ho=>?_) λhp ho=>?_
                   . refine run 11 ?_;exact we ho
                   . refine gk ?_;exact we ho
         . exact lv [] [] ho
       . exact we ho
       . exact rv ho
     . exact rv ho⟩
instance i41 {w_0 a_1 b_2}:FI ktab 41 (zaY w_0 a_1 b_2) [.val (zS zJ) w_0,vI a_1,vI b_2] (λout=>[wB out]):=⟨λout ho=>by
 delta zaY at ho;refine fn λ_ _=>?_;obtain ⟨x5,hx5,x6,hx6,ho⟩:=zfI ho;refine gal λb7=>?_;refine gal λb8=>?_;refine gfz 1 zby x5 1 [7] ?_;refine gfz 1 zby x6 0 [8] ?_;obtain ⟨xa,hc,xb,hd,ca,ha,ho⟩:=zpQ ho;refine run 19 ?_;refine gcx ca [] [] (λt=>(.normal,λ_=>([(6,vB t)],[]))) ?_ λ_=>?_
 . exact we ha
 . exact rv ho⟩
theorem ze8 {rec:Int->Int->(List Bool)->(List Bool)->zaz->(List Int)->Option ((Bool)×(List Bool)×(List Int))} (hrec:∀ {a_0 p_1 p_2 p_3 p_4 p_5} {out:((Bool)×(List Bool)×(List Int))},rec a_0 p_1 p_2 p_3 p_4 p_5=some out->∀ (b_3:Nat) (hv_3_0:ze) (b_5:Nat) (hv_5_0:ze),zgM ktab 114 [.val (zh .i64) a_0,.val (zS (zh .i64)) p_1,.val (zS (zd zu)) p_2,.raw (.ptr b_3 0),.val (zS (zS zJ)) p_4,.raw (.ptr b_5 0),.val (zfy 114 [.val (zS (zh .i64)) (p_1),.val (zS (zd zu)) (p_2),.raw (.ptr b_3 0),.val (zS (zS zJ)) (p_4),.raw (.ptr b_5 0)]) ()] [(.ptr b_3 0,.box [.raw hv_3_0]),(hv_3_0,.row zu (p_3)),(.ptr b_5 0,.box [.raw hv_5_0]),(hv_5_0,.row (zh .i64) (p_5))] [.val zu (out.1)] (λγ=>[(.ptr b_3 0,.box [.raw (gh γ 0)]),((gh γ 0),.row zu (out.2.1)),(.ptr b_5 0,.box [.raw (gh γ 1)]),((gh γ 1),.row (zh .i64) (out.2.2))])) {a_0:Int} {p_1:Int} {p_2:(List Bool)} {p_3:(List Bool)} {p_4:zaz} {p_5:(List Int)} {out:((Bool)×(List Bool)×(List Int))} (ho:zbY rec a_0 p_1 p_2 p_3 p_4 p_5=some out) (b_3:Nat) (hv_3_0:ze) (b_5:Nat) (hv_5_0:ze):zgM ktab 114 [.val (zh .i64) a_0,.val (zS (zh .i64)) p_1,.val (zS (zd zu)) p_2,.raw (.ptr b_3 0),.val (zS (zS zJ)) p_4,.raw (.ptr b_5 0),.val (zfy 114 [.val (zS (zh .i64)) (p_1),.val (zS (zd zu)) (p_2),.raw (.ptr b_3 0),.val (zS (zS zJ)) (p_4),.raw (.ptr b_5 0)]) ()] [(.ptr b_3 0,.box [.raw hv_3_0]),(hv_3_0,.row zu (p_3)),(.ptr b_5 0,.box [.raw hv_5_0]),(hv_5_0,.row (zh .i64) (p_5))] [.val zu (out.1)] (λγ=>[(.ptr b_3 0,.box [.raw (gh γ 0)]),((gh γ 0),.row zu (out.2.1)),(.ptr b_5 0,.box [.raw (gh γ 1)]),((gh γ 1),.row (zh .i64) (out.2.2))]):=by
 refine zdN (F:=Tryz.f114) (by rfl) (by rfl) (by rfl) (λC=>?_);delta zbY at ho;obtain ⟨ta,hc,ho⟩:=bnd ho;refine gl2 hc ho [0,1,2,3,4,5,6] [] [0,2,1,3] (λs g=>([(9,vI s.1)],[(.ptr b_3 0,.box [.raw (gh g 0)]),(.ptr b_5 0,.box [.raw (gh g 1)]),((gh g 0),.row zu s.2.1),((gh g 1),.row (zh .i64) s.2.2)])) (λb=>(.exit 0,λg=>([],[(.ptr b_3 0,.box [.raw (gh g 0)]),(.ptr b_5 0,.box [.raw (gh g 1)]),((gh g 0),.row zu b.1),((gh g 1),.row (zh .i64) b.2)]))) (λb=>(.ret,λg=>([(8,vB b.1)],[(.ptr b_3 0,.box [.raw (gh g 0)]),(.ptr b_5 0,.box [.raw (gh g 1)]),((gh g 0),.row zu b.2.1),((gh g 1),.row (zh .i64) b.2.2)]))) [hv_3_0,hv_5_0] (λsa ga _ ho=>?_) (λba ho gb=>?_) λbb ho gb=>?_
 . refine gct ho (λhd ho=>?_) λhd ho=>?_
   . obtain ⟨xb,hj,ho⟩:=bnd ho;refine wbr ho (λhe ho=>?_) λhe ho=>?_
     . refine gk ?_;exact lv [(gh ga 0),(gh ga 1)] [0,1,2,3] ho
     . obtain ⟨xd,hk,ho⟩:=bnd ho;refine wbr ho (λhf ho=>?_) λhf ho=>?_
       . refine gk ?_;exact lv [(gh ga 0),(gh ga 1)] [0,1,2,3] ho
       . refine gcl ho λya hl ho=>?_;refine gct ho (λhg ho=>?_) λhg ho=>?_
         . exact lv [(gh ga 0),(gh ga 1)] [0,1,2,3] ho
         . obtain ⟨xe,hm,ho⟩:=bnd ho;refine run 9 ?_;refine zao [0,3,7,10] (by kernel_rfl) ?_;obtain ⟨xf,hn,ho⟩:=bnd ho;refine wbr ho (λha ho=>?_) λha ho=>?_
           . refine gk ?_;refine run 5 ?_;obtain ⟨xg,hp,ho⟩:=bnd ho;exact lv [(gh ga 0),(gh ga 1)] [0,1,2,3] ho
           . refine run 6 ?_;refine zhj rfl zvo (.g rfl rfl (gf0 ha)) rfl rfl (.t rfl) ?_;obtain ⟨xa,hr,yb,hh,ho⟩:=zfI ho;refine run 4 ?_;refine zhi (ps:=[]) (es:=[vI xa]) (cs:=[.val (zS (zh .i64)) p_1,.val (zS (zd zu)) p_2,.raw (.ptr b_3 0),.val (zS (zS zJ)) p_4,.raw (.ptr b_5 0),.val (zfy 114 [.val (zS (zh .i64)) p_1,.val (zS (zd zu)) p_2,.raw (.ptr b_3 0),.val (zS (zS zJ)) p_4,.raw (.ptr b_5 0)]) ()]) [0,2,1,3] [] (λ_ h=>by cases h<;>exact ⟨by kernel_rfl,by kernel_rfl⟩) (hrec hh b_3 (gh ga 0) b_5 (gh ga 1)) rfl rfl (by decide) rfl (.g rfl rfl (gf0 ha)) rfl rfl rfl (.t rfl) (.c (.t rfl) .n) ?_;intro gc;show zm ..;refine gct ho (λhi ho=>?_) λhi ho=>?_
             . obtain ⟨xh,hs,ho⟩:=bnd ho;exact lv [(gh gc 0),(gh gc 1)] [0,2,1,3] ho
             . exact lv [(gh gc 0),(gh gc 1)] [0,2,1,3] ho
   . exact lv [(gh ga 0),(gh ga 1)] [0,1,2,3] ho
 . refine run 4 ?_;cases ho; exact zea (zaF [0,2,1,3] [(gh gb 0),(gh gb 1)] (.inr rfl) (.v rfl .n) rfl (by decide))
 . cases ho; exact id (zaF [0,2,1,3] [(gh gb 0),(gh gb 1)] (.inr rfl) (.v rfl .n) rfl (by decide))
theorem zgm {k:Nat} {a_0 p_1 p_2 p_3 p_4 p_5 out} (ho:zda k a_0 p_1 p_2 p_3 p_4 p_5=some out) (b_3:Nat) (hv_3_0:ze) (b_5:Nat) (hv_5_0:ze):zgM ktab 114 [.val (zh .i64) a_0,.val (zS (zh .i64)) p_1,.val (zS (zd zu)) p_2,.raw (.ptr b_3 0),.val (zS (zS zJ)) p_4,.raw (.ptr b_5 0),.val (zfy 114 [.val (zS (zh .i64)) (p_1),.val (zS (zd zu)) (p_2),.raw (.ptr b_3 0),.val (zS (zS zJ)) (p_4),.raw (.ptr b_5 0)]) ()] [(.ptr b_3 0,.box [.raw hv_3_0]),(hv_3_0,.row zu (p_3)),(.ptr b_5 0,.box [.raw hv_5_0]),(hv_5_0,.row (zh .i64) (p_5))] [.val zu (out.1)] (λγ=>[(.ptr b_3 0,.box [.raw (gh γ 0)]),((gh γ 0),.row zu (out.2.1)),(.ptr b_5 0,.box [.raw (gh γ 1)]),((gh γ 1),.row (zh .i64) (out.2.2))]):=by
 induction k generalizing a_0 p_1 p_2 p_3 p_4 p_5 out b_3 hv_3_0 b_5 hv_5_0 with
 | zero=>cases ho
 | succ k ih=>exact ze8 (λh b_3 hv_3_0 b_5 hv_5_0=>ih h b_3 hv_3_0 b_5 hv_5_0) ho b_3 hv_3_0 b_5 hv_5_0
instance i77 {w_0 fixed_1}:FI ktab 77 (zcN w_0 fixed_1) [.val (zS zJ) w_0,.val (zd (zh .i64)) fixed_1] (λout=>[wI out]):=⟨λout ho=>by
 delta zcN at ho;refine fn λ_ _=>?_;refine gal λb1=>?_;refine run 1 ?_;refine zeM (zdo (R:=(zh .i64)) (a:=(zl w_0.1)) 0 [5] (zB rfl) rfl rfl ⟨rfl,trivial⟩) ?_;obtain ⟨x2,hx2,ho⟩:=bnd ho;refine gmk λv3=>?_;refine zeM (zbS (zh .i64)) ?_;refine gal λb4=>?_;refine zbt 0 2 (U27).sz rfl rfl (by exact Nat.le_of_ble_eq_true rfl) (.n rfl) rfl rfl (.t rfl) (.t rfl) (by rfl) ?_;obtain ⟨tb,ha,ho⟩:=bnd ho;refine glp ha [1,2,5,6,23] [] [0,2] (λs g=>([(24,vI s.1)],[(.ptr b4 0,.box [.raw (gh g 0)]),((gh g 0),.row (zh .i64) s.2)])) (λb=>(.exit 0,λg=>([],[(.ptr b4 0,.box [.raw (gh g 0)]),((gh g 0),.row (zh .i64) b)]))) [v3] (λs9 gd _ ho=>?_) λge=>?_
 . refine gct ho (λhc ho=>?_) λhc ho=>?_
   . obtain ⟨xa,hk,ho⟩:=bnd ho;exact lv [(gh gd 0)] [0,1] ho
   . exact lv [(gh gd 0)] [0,1] ho
 . obtain ⟨xb,hl,ho⟩:=bnd ho;refine gmk λva=>?_;refine zeM (zbS zu) ?_;refine gal λbb=>?_;refine zbt 0 2 (U55).sz rfl rfl (by exact Nat.le_of_ble_eq_true rfl) (.n rfl) rfl rfl (.t rfl) (.t rfl) (by rfl) ?_;obtain ⟨ta,hd,ho⟩:=bnd ho;refine glp hd [1,2,5,6,9,33,34] [3,4] [0,2,3,4] (λs g=>([(8,vI s.1),(35,vI s.2.1)],[(.ptr bb 0,.box [.raw (gh g 0)]),((gh g 0),.row zu s.2.2)])) (λb=>(.exit 2,λg=>([(8,vI b.1)],[(.ptr bb 0,.box [.raw (gh g 0)]),((gh g 0),.row zu b.2)]))) [va] (λsb gb _ ho=>?_) λgf=>?_
   . refine gct ho (λhe ho=>?_) λhe ho=>?_
     . obtain ⟨xd,hm,ho⟩:=bnd ho;refine gct ho (λhf ho=>?_) λhf ho=>?_
       . obtain ⟨xe,hn,ho⟩:=bnd ho;exact lv [(gh gb 0)] [0,1,2,3] ho
       . exact lv [(gh gb 0)] [0,1,2,3] ho
     . exact lv [(gh gb 0)] [0,1,2,3] ho
   . refine run 2 ?_;refine zeM (zbS zu) ?_;refine gal λba=>?_;refine gal λbc=>?_;refine run 3 ?_;refine zeM (zdV 4 3 (q:=0) [] rfl rfl rfl rfl (by rfl) trivial) ?_;refine zeM (zdo (R:=(zd zu)) (a:=ta.2) 3 [9] (zB rfl) rfl rfl ⟨rfl,trivial⟩) ?_;refine zj8 (.n rfl) rfl rfl .n (.c (.t rfl) (.c (.t rfl) (.c (.t rfl) (.c (.t rfl) (.c (.t rfl) (.c (.t rfl) .n)))))) ?_;refine zjp 0 (zvo).sz rfl (by exact Nat.le_of_ble_eq_true rfl) (.n rfl) rfl rfl (.t rfl) (.t rfl) rfl rfl ?_;refine zeM (zlc 0 [13] (zoR (g:=114) (cs:=[.val (zS (zh .i64)) (zl w_0.1),.val (zS (zd zu)) ta.2,.raw (.ptr ba 0),.val (zS (zS zJ)) w_0,.raw (.ptr b4 0)]) rfl) rfl rfl ⟨rfl,trivial⟩) ?_;obtain ⟨tc,hg,ho⟩:=bnd ho;refine glp hg [5,12,13] [] [0,2,1,3] (λs g=>([(8,vI s.1),(14,vI s.2.1)],[(.ptr ba 0,.box [.raw (gh g 0)]),(.ptr b4 0,.box [.raw (gh g 1)]),((gh g 0),.row zu s.2.2.1),((gh g 1),.row (zh .i64) s.2.2.2)])) (λb=>(.exit 4,λg=>([(8,vI b.1)],[]))) [.nilslice,(gh ge 0)] (λsa gc _ ho=>?_) λgg=>?_
     . refine gct ho (λhh ho=>?_) λhh ho=>?_
       . obtain ⟨xf,hp,ho⟩:=bnd ho;refine gmk λvb=>?_;refine zbt 1 0 (U55).sz rfl rfl (by exact Nat.le_of_ble_eq_true rfl) (.n rfl) rfl rfl (.t rfl) (.t rfl) (by rfl) ?_;refine run 3 ?_;refine zhj rfl zvo (.n rfl) rfl rfl (.t rfl) ?_;obtain ⟨ya,hi,ho⟩:=bnd ho;refine run 1 ?_;refine zhi (ps:=[]) (es:=[vI sa.2.1]) (cs:=[.val (zS (zh .i64)) (zl w_0.1),.val (zS (zd zu)) ta.2,.raw (.ptr ba 0),.val (zS (zS zJ)) w_0,.raw (.ptr b4 0),.val (zfy 114 [.val (zS (zh .i64)) (zl w_0.1),.val (zS (zd zu)) ta.2,.raw (.ptr ba 0),.val (zS (zS zJ)) w_0,.raw (.ptr b4 0)]) ()]) [1,0,2,4] [3] (λ_ h=>by cases h) (zgm hi ba vb b4 (gh gc 1)) rfl rfl (by decide) rfl (.n rfl) rfl rfl rfl (.t rfl) (.c (.t rfl) .n) ?_;intro ga;show zm ..;refine gct ho (λhj ho=>?_) λhj ho=>?_
         . exact lv [(gh ga 0),(gh ga 1)] [0,2,1,3] ho
         . exact lv [(gh ga 0),(gh ga 1)] [0,2,1,3] ho
       . exact lv [(gh gc 0),(gh gc 1)] [] ho
     . exact we ho⟩
instance i115 {s_0 v_1}:FI ktab 115 (zcV s_0 v_1) [.val (zd (zh .i64)) s_0,vI v_1] (λout=>[wI out]):=⟨λout ho=>by
 delta zcV at ho;refine fn λ_ _=>?_;obtain ⟨t9,ht9,ho⟩:=bnd ho;refine gl2 ht9 ho [0,1,7] [] [] (λs g=>([(8,vI s)],[])) (λb=>(.exit 0,λg=>([],[]))) (λb=>(.ret,λg=>([(4,vI b)],[]))) [] (λs4 g5 _ ho=>?_) (λba ho ga=>?_) λbb ho ga=>?_
 . exact we ho
 . exact we ho
 . exact rv ho⟩
instance i78 {s_0 v_1}:FI ktab 78 (zdB s_0 v_1) [.val (zd (zh .i64)) s_0,vI v_1] (λout=>[wB out]):=fw
instance i79 {s_0}:FI ktab 79 (zcW s_0) [.val (zd (zh .i64)) s_0] (λout=>[.row (zh .i64) out]):=⟨λout ho=>by
 delta zcW at ho;refine fn λ_ _=>?_;refine gnr (zh .i64) ?_;refine run 5 ?_;refine zu3 is' (.n rfl) rfl rfl (.t rfl) (λhe=>?_) ?_
 . subst he;have e:out=[]:=by simp [zcL] at ho; first | exact ho | exact ho.symm
   subst e;refine gk ?_;refine gnr (zh .i64) ?_;refine run 1 ?_;exact zea (zcZ (.inr rfl) (.r 0 rfl rfl .n) (by decide))
 . refine gk ?_;refine run 3 ?_;refine zuV (R:=(zh .i64)) is' iy' (.n rfl) rfl rfl (Elts.n (R:=(zh .i64))) rfl (by decide) ?_;intro v1;refine gap λv2=>?_;refine run 2 ?_;exact zea (zcZ (.inr rfl) (.r 0 rfl rfl .n) (by decide))⟩
instance i42 {w_0}:FI ktab 42 (zdb w_0) [.val (zS zJ) w_0] (λout=>[.row (zh .i64) out]):=⟨λout ho=>by
 delta zdb at ho;refine fn λ_ _=>?_;refine gnr (zh .i64) ?_;refine run 1 ?_;refine zn5 (by exact zlT) ?_;obtain ⟨y1,hy1,ho⟩:=bnd ho;refine run 12 ?_;refine zgZ (i77.ok _ hy1) (.v zie .n) rfl (.n rfl) rfl rfl rfl .f (.c (.o (.t rfl)) (.c (.o .nil) .n)) ?_;show zm ..;refine gnr (zh .i64) ?_;obtain ⟨ta,ha,ho⟩:=bnd ho;refine glp ha [0,3,4,15] [] [0] (λs g=>([(5,.raw (gh g 0)),(16,vI s.2)],[((gh g 0),.row (zh .i64) s.1)])) (λb=>(.exit 0,λg=>([(5,.raw (gh g 0))],[((gh g 0),.row (zh .i64) b)]))) [.nilslice] (λsa gb _ ho=>?_) λgd=>?_
 . refine gct ho (λhc ho=>?_) λhc ho=>?_
   . obtain ⟨tb,hd,ho⟩:=bnd ho;refine gl2 hd ho [0,3,4,6,15,16] [] [0] (λs g=>([(5,.raw (gh g 0)),(7,vI s.2)],[((gh g 0),.row (zh .i64) s.1)])) (λb=>(.exit 1,λg=>([(5,.raw (gh g 0)),(32,vI b.2.1),(33,vB b.2.2.1),(34,vB b.2.2.2.1),(37,.val (zS zJ) b.2.2.2.2.1),(40,vI b.2.2.2.2.2.1),(41,.val (zd (zh .i64)) b.2.2.2.2.2.2.1),(42,.raw (gh g 1)),(43,vI b.2.2.2.2.2.2.2.2.1),(44,vI b.2.2.2.2.2.2.2.2.2.1),(45,vB b.2.2.2.2.2.2.2.2.2.2)],[((gh g 0),.row (zh .i64) b.1),((gh g 1),.row (zh .i64) b.2.2.2.2.2.2.2.1)]))) (λb=>(.exit 2,λg=>([(5,.raw (gh g 0))],[((gh g 0),.row (zh .i64) b)]))) [(gh gb 0)] (λsb ga _ ho=>?_) (λba ho gc=>?_) λbb ho gc=>?_
     . refine gct ho (λhe ho=>?_) λhe ho=>?_
       . refine gcl ho λya hi ho=>?_;refine wbr ho (λhf ho=>?_) λhf ho=>?_
         . refine gcl ho λyb hj ho=>?_;refine wbr ho (λhg ho=>?_) λhg ho=>?_
           . refine gcl ho λyc hk ho=>?_;intro vd;show zm ..;obtain ⟨xa,hl,ho⟩:=bnd ho;refine gap λva=>?_;refine gcl ho λyd hm ho=>?_;refine gct ho (λhh ho=>?_) λhh ho=>?_
             . obtain ⟨xb,hn,ho⟩:=bnd ho;refine gap λvb=>?_;exact lv [vb,va] [0,1] ho
             . exact lv [(gh ga 0)] [1] ho
           . refine gk ?_;exact lv [(gh ga 0)] [0] ho
         . refine gk ?_;exact lv [(gh ga 0)] [0] ho
       . exact lv [(gh ga 0)] [0] ho
     . exact lv [(gh gc 0)] [0] ho
     . obtain ⟨xd,hp,ho⟩:=bnd ho;refine gap λvc=>?_;exact lv [vc] [0] ho
   . exact lv [(gh gb 0)] [0] ho
 . exact we ho⟩
theorem zg9 {rec:Int->(List Bool)->Int->zaz->(List Bool)->(List Int)->Option ((List Bool)×(List Bool))} (hrec:∀ {a_0 p_1 p_2 p_3 p_4 p_5} {out:((List Bool)×(List Bool))},rec a_0 p_1 p_2 p_3 p_4 p_5=some out->∀ (b_1:Nat) (hv_1_0:ze) (b_4:Nat) (hv_4_0:ze),zgM ktab 43 [.val (zh .i64) a_0,.raw (.ptr b_1 0),.val (zS (zh .i64)) p_2,.val (zS (zS zJ)) p_3,.raw (.ptr b_4 0),.val (zS (zd (zh .i64))) p_5,.val (zfy 43 [.raw (.ptr b_1 0),.val (zS (zh .i64)) (p_2),.val (zS (zS zJ)) (p_3),.raw (.ptr b_4 0),.val (zS (zd (zh .i64))) (p_5)]) ()] [(.ptr b_1 0,.box [.raw hv_1_0]),(hv_1_0,.row zu (p_1)),(.ptr b_4 0,.box [.raw hv_4_0]),(hv_4_0,.row zu (p_4))] [] (λγ=>[(.ptr b_1 0,.box [.raw (gh γ 0)]),((gh γ 0),.row zu (out.1)),(.ptr b_4 0,.box [.raw (gh γ 1)]),((gh γ 1),.row zu (out.2))])) {a_0:Int} {p_1:(List Bool)} {p_2:Int} {p_3:zaz} {p_4:(List Bool)} {p_5:(List Int)} {out:((List Bool)×(List Bool))} (ho:zec rec a_0 p_1 p_2 p_3 p_4 p_5=some out) (b_1:Nat) (hv_1_0:ze) (b_4:Nat) (hv_4_0:ze):zgM ktab 43 [.val (zh .i64) a_0,.raw (.ptr b_1 0),.val (zS (zh .i64)) p_2,.val (zS (zS zJ)) p_3,.raw (.ptr b_4 0),.val (zS (zd (zh .i64))) p_5,.val (zfy 43 [.raw (.ptr b_1 0),.val (zS (zh .i64)) (p_2),.val (zS (zS zJ)) (p_3),.raw (.ptr b_4 0),.val (zS (zd (zh .i64))) (p_5)]) ()] [(.ptr b_1 0,.box [.raw hv_1_0]),(hv_1_0,.row zu (p_1)),(.ptr b_4 0,.box [.raw hv_4_0]),(hv_4_0,.row zu (p_4))] [] (λγ=>[(.ptr b_1 0,.box [.raw (gh γ 0)]),((gh γ 0),.row zu (out.1)),(.ptr b_4 0,.box [.raw (gh γ 1)]),((gh γ 1),.row zu (out.2))]):=by
 refine zdN (F:=Tryz.f43) (by rfl) (by rfl) (by rfl) (λC=>?_);delta zec at ho;obtain ⟨x1,hx1,ho⟩:=bnd ho;refine gct ho (λhq2 ho=>?_) λhq2 ho=>?_
 . cases ho; exact zea (zaF [0,1,2,3] [hv_1_0,hv_4_0] (.inr rfl) .n rfl (by decide))
 . obtain ⟨x3,hx3,ta,ha,ho⟩:=zfI ho;refine glp ha [0,3,4,5,6,16] [] [0,2,1,3] (λs g=>([(17,vI s.1)],[(.ptr b_1 0,.box [.raw (gh g 0)]),(.ptr b_4 0,.box [.raw (gh g 1)]),((gh g 0),.row zu s.2.1),((gh g 1),.row zu s.2.2)])) (λb=>(.exit 0,λg=>([],[(.ptr b_1 0,.box [.raw (gh g 0)]),(.ptr b_4 0,.box [.raw (gh g 1)]),((gh g 0),.row zu b.1),((gh g 1),.row zu b.2)]))) [hv_1_0,hv_4_0] (λsa ga _ ho=>?_) λgb=>?_
   . refine gct ho (λhc ho=>?_) λhc ho=>?_
     . refine gcl ho λya hh ho=>?_;refine wbr ho (λhd ho=>?_) λhd ho=>?_
       . obtain ⟨xb,hi,ho⟩:=bnd ho;refine gct ho (λhe ho=>?_) λhe ho=>?_
         . obtain ⟨xd,hj,xe,hk,ho⟩:=zfI ho;refine gct ho (λhf ho=>?_) λhf ho=>?_
           . refine run 1 ?_;refine zhj rfl zvn (.n rfl) rfl rfl (.t rfl) ?_;obtain ⟨xa,hl,yb,hg,ho⟩:=zfI ho;refine run 4 ?_;refine zhi (ps:=[]) (es:=[vI xa]) (cs:=[.raw (.ptr b_1 0),.val (zS (zh .i64)) p_2,.val (zS (zS zJ)) p_3,.raw (.ptr b_4 0),.val (zS (zd (zh .i64))) p_5,.val (zfy 43 [.raw (.ptr b_1 0),.val (zS (zh .i64)) p_2,.val (zS (zS zJ)) p_3,.raw (.ptr b_4 0),.val (zS (zd (zh .i64))) p_5]) ()]) [0,2,1,3] [] (λ_ h=>by cases h<;>exact ⟨by kernel_rfl,by kernel_rfl⟩) (hrec hg b_1 (gh ga 0) b_4 (gh ga 1)) rfl rfl (by decide) rfl (.n rfl) rfl rfl rfl (.t rfl) (.c (.t rfl) .n) ?_;intro gc;show zm ..;exact lv [(gh gc 0),(gh gc 1)] [0,2,1,3] ho
           . exact lv [(gh ga 0),(gh ga 1)] [0,1,2,3] ho
         . exact lv [(gh ga 0),(gh ga 1)] [0,1,2,3] ho
       . refine gk ?_;exact lv [(gh ga 0),(gh ga 1)] [0,1,2,3] ho
     . exact lv [(gh ga 0),(gh ga 1)] [0,1,2,3] ho
   . cases ho; exact id (zaF [0,2,1,3] [(gh gb 0),(gh gb 1)] (.inl rfl) .n rfl (by decide))
theorem zjg {k:Nat} {a_0 p_1 p_2 p_3 p_4 p_5 out} (ho:zgA k a_0 p_1 p_2 p_3 p_4 p_5=some out) (b_1:Nat) (hv_1_0:ze) (b_4:Nat) (hv_4_0:ze):zgM ktab 43 [.val (zh .i64) a_0,.raw (.ptr b_1 0),.val (zS (zh .i64)) p_2,.val (zS (zS zJ)) p_3,.raw (.ptr b_4 0),.val (zS (zd (zh .i64))) p_5,.val (zfy 43 [.raw (.ptr b_1 0),.val (zS (zh .i64)) (p_2),.val (zS (zS zJ)) (p_3),.raw (.ptr b_4 0),.val (zS (zd (zh .i64))) (p_5)]) ()] [(.ptr b_1 0,.box [.raw hv_1_0]),(hv_1_0,.row zu (p_1)),(.ptr b_4 0,.box [.raw hv_4_0]),(hv_4_0,.row zu (p_4))] [] (λγ=>[(.ptr b_1 0,.box [.raw (gh γ 0)]),((gh γ 0),.row zu (out.1)),(.ptr b_4 0,.box [.raw (gh γ 1)]),((gh γ 1),.row zu (out.2))]):=by
 induction k generalizing a_0 p_1 p_2 p_3 p_4 p_5 out b_1 hv_1_0 b_4 hv_4_0 with
 | zero=>cases ho
 | succ k ih=>exact zg9 (λh b_1 hv_1_0 b_4 hv_4_0=>ih h b_1 hv_1_0 b_4 hv_4_0) ho b_1 hv_1_0 b_4 hv_4_0
end Go.Ai.TabYtghlaibcihhbcaaGreat