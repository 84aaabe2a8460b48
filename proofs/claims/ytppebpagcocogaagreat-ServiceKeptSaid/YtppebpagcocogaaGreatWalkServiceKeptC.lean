/- Written by program: walks through functions. -/
import Derived.Test.YtppebpagcocogaaGreatU11
import Derived.Test.YtppebpagcocogaaGreatU22
import Derived.Test.YtppebpagcocogaaGreatU17
import Derived.Test.YtppebpagcocogaaGreatU21
import Derived.Test.YtppebpagcocogaaGreatU20
import Derived.Test.YtppebpagcocogaaGreatU19
set_option linter.unusedSimpArgs false
set_option linter.unusedVariables false
set_option linter.unusedSectionVars false
namespace Go.Ai.TabYtppebpagcocogaaGreat
open Go Go.Ai Go.Ai.Sx Go.Proofs
attribute [local irreducible] zr
set_option maxRecDepth 100000
set_option maxHeartbeats 4000000
instance i106 {h_0 p_1}:FI ktab 106 (zdE h_0 p_1) [vI h_0,.val (z5 (zb (zj .i64))) p_1] (λout=>[wB out]):=fw
instance i70 {l_0}:FI ktab 70 (zcX l_0) [.val (zb (zj .i64)) l_0] (λout=>[wB out]):=⟨λout ho=>by
 delta zcX at ho;refine fn λ_ _=>?_;refine run 8 ?_;refine zi4 (X:=Int) (Y:=Bool) (λx=>[.val (zj .i64) x]) (λy=>[.val zau y]) (f:=(λx=>zdE x l_0)) (λx y hf=>i106.ok _ hf) rfl (.n rfl) rfl rfl .n (.c (.t rfl) .n) ?_;exact we ho⟩
instance i29 {p_0 s_1 c_2}:FI ktab 29 (za0 p_0 s_1 c_2) [.val zaP p_0,.val zbM s_1,.val zk c_2] (λout=>[wI out.1,wI out.2]):=⟨λout ho=>by
 delta za0 at ho;refine fn λ_ _=>?_;refine gcl ho λy1 hy1 ho=>?_;obtain ⟨c6,hc6,ho⟩:=bnd ho;refine run 8 ?_;refine gcx c6 [4,5,8] [] (λt=>(.normal,λ_=>([(30,vB t)],[]))) ?_ λ_=>?_
 . exact we hc6
 . exact we ho⟩
instance i109 {s_0 f_1}:FI ktab 109 (zQ s_0 f_1) [.val (zb zk) s_0,.val (rFn ktab (Connection) (Bool) (λx=>[.val zk (x)]) (λy=>[.val zau (y)])) f_1] (λout=>[wI out]):=⟨λout ho=>by
 delta zQ at ho;refine fn λ_ _=>?_;obtain ⟨ta,ha,ho⟩:=bnd ho;refine gl2 ha ho [0,1,7] [] [] (λs g=>([(8,vI s)],[])) (λb=>(.exit 0,λg=>([],[]))) (λb=>(.ret,λg=>([(4,vI b)],[]))) [] (λs5 g6 _ ho=>?_) (λba ho ga=>?_) λbb ho ga=>?_
 . refine gct ho (λhq7 ho=>?_) λhq7 ho=>?_
   . obtain ⟨x8,hx8,y9,hy9,ho⟩:=zhr ho;refine gcv hy9 ?_;exact we ho
   . exact lv [] [] ho
 . exact we ho
 . exact rv ho⟩
instance i73 {s_0 f_1}:FI ktab 73 (zZ s_0 f_1) [.val (zb zk) s_0,.val (rFn ktab (Connection) (Bool) (λx=>[.val zk (x)]) (λy=>[.val zau (y)])) f_1] (λout=>[wB out]):=fw
instance i74 {c_0 p_1 p_2}:FI ktab 74 (zcC c_0 p_1 p_2) [.val zk c_0,.val (z5 (zb (z5 zg))) p_1,.val (z5 zbM) p_2] (λout=>[wB out]):=fw
instance i30 {p_0 s_1 l_2}:FI ktab 30 (zcD p_0 s_1 l_2) [.val zaP p_0,.val zbM s_1,.val (zb zk) l_2] (λout=>[wB out.1,wI out.2]):=⟨λout ho=>by
 delta zcD at ho;refine fn λ_ _=>?_;refine gcl ho λy1 hy1 ho=>?_;refine gal λb2=>?_;refine run 1 ?_;refine ze8 (ze9 (R:=(zb (z5 zg))) (a:=y1.1) 0 [8] (zt rfl) rfl rfl ⟨rfl,trivial⟩) ?_;obtain ⟨c7,hc7,ho⟩:=bnd ho;refine run 4 ?_;refine gcx c7 [2,4,8] [] (λt=>(.normal,λ_=>([(29,vB t)],[]))) ?_ λ_=>?_
 . exact we hc7
 . refine gct ho (λha ho=>?_) λha ho=>?_
   . exact we ho
   . refine run 4 ?_;refine zi4 (X:=Connection) (Y:=Bool) (λx=>[.val zk x]) (λy=>[.val zau y]) (f:=(λx=>zcC x y1.1 s_1)) (λx y hf=>i74.ok _ hf) rfl (.n rfl) rfl rfl .n (.c (.t rfl) (.c (.t rfl) .n)) ?_;exact we ho⟩
instance i31 {s_0}:FI ktab 31 (zeL s_0) [.val zbM s_0] (λout=>[wB out]):=⟨λout ho=>by
 delta zeL at ho;refine fn λ_ _=>?_;obtain ⟨ta,ha,ho⟩:=bnd ho;refine gl2 ha ho [1] [] [] (λs g=>([(3,vI s)],[])) (λb=>(.exit 0,λg=>([],[]))) (λb=>(.ret,λg=>([(2,vB b)],[]))) [] (λs7 g8 _ ho=>?_) (λba ho ga=>?_) λbb ho ga=>?_
 . exact we ho
 . exact we ho
 . exact rv ho⟩
instance i32 {lines_0 c_1}:FI ktab 32 (zaO lines_0 c_1) [.val (zb zav) lines_0,.val zk c_1] (λout=>[wB out]):=⟨λout ho=>by
 delta zaO at ho;refine fn λ_ _=>?_;obtain ⟨c7,hc7,ho⟩:=bnd ho;refine run 7 ?_;refine gcx c7 [0,3] [] (λt=>(.normal,λ_=>([(33,vB t)],[]))) ?_ λ_=>?_
 . exact we hc7
 . refine gct ho (λha ho=>?_) λha ho=>?_
   . exact we ho
   . obtain ⟨ca,hc,ho⟩:=bnd ho;refine run 2 ?_;refine gcx ca [] [] (λt=>(.normal,λ_=>([(4,vB t)],[]))) ?_ λ_=>?_
     . exact we hc
     . exact rv ho⟩
instance i34 {lines_0 l_1}:FI ktab 34 (zaE lines_0 l_1) [.val (zb zav) lines_0,.val (zb zk) l_1] (λout=>[wB out]):=⟨λout ho=>by
 delta zaE at ho;refine fn λ_ _=>?_;obtain ⟨ta,ha,ho⟩:=bnd ho;refine gl2 ha ho [0,1] [] [] (λs g=>([(5,vI s)],[])) (λb=>(.exit 0,λg=>([],[]))) (λb=>(.ret,λg=>([(4,vB b)],[]))) [] (λs5 g6 _ ho=>?_) (λba ho ga=>?_) λbb ho ga=>?_
 . exact we ho
 . exact we ho
 . exact rv ho⟩
instance i11 {p_0 s_1 l_2 more_3}:FI ktab 11 (zb7 p_0 s_1 l_2 more_3) [.val zaP p_0,.val zbM s_1,.val (zb zk) l_2,vI more_3] (λout=>[wB out]):=⟨λout ho=>by
 delta zb7 at ho;refine fn λ_ _=>?_;obtain ⟨ca,ha,ho⟩:=bnd ho;refine run 8 ?_;refine gcx ca [2,3,4,5] [] (λt=>(.normal,λ_=>([(65,vB t)],[]))) ?_ λ_=>?_
 . exact we ha
 . refine gct ho (λhc ho=>?_) λhc ho=>?_
   . exact we ho
   . obtain ⟨xa,hE,ho⟩:=bnd ho;refine gcl ho λya hF ho=>?_;refine gcl ho λyb hG ho=>?_;obtain ⟨cc,hd,ho⟩:=bnd ho;refine run 8 ?_;refine gcx cc [2,3,4,5,9,10,11] [] (λt=>(.normal,λ_=>([(95,vB t)],[]))) ?_ λ_=>?_
     . exact we hd
     . refine gct ho (λhe ho=>?_) λhe ho=>?_
       . exact we ho
       . refine gct ho (λhf ho=>?_) λhf ho=>?_
         . refine gal λbc=>?_;refine glb (s_1.1,s_1.2.1,ya.1,()) 0 ?_;refine gcl ho λyc hH ho=>?_;obtain ⟨cd,hg,ho⟩:=bnd ho;refine run 7 ?_;refine gcx cd [2,3,4,5,9] [0] (λt=>(.normal,λ_=>([(113,vB t)],[]))) ?_ λ_=>?_
           . have ho:=hg;refine wbr ho (λhh ho=>?_) λhh ho=>?_
             . exact lv [] [0] ho
             . exact lv [] [0] ho
           . refine gct ho (λhi ho=>?_) λhi ho=>?_
             . exact we ho
             . refine gal λba=>?_;refine run 5 ?_;refine ze8 (zcS (zj .i64)) ?_;refine zb4 1 0 (U27).sz rfl rfl (by exact Nat.le_of_ble_eq_true rfl) (.n rfl) rfl rfl (.t rfl) .nilr (by rfl) ?_;obtain ⟨ta,hj,ho⟩:=bnd ho;refine glp hj [2,3,4,5,9,17] [] [1,0] (λs g=>([(18,vI s.1)],[(.ptr ba 0,.box [.val (zb zav) s_1.1,.val (zb (zj .i64)) s_1.2.1,.raw (gh g 0)]),((gh g 0),.row (zj .i64) s.2)])) (λb=>(.exit 0,λg=>([],[(.ptr ba 0,.box [.val (zb zav) s_1.1,.val (zb (zj .i64)) s_1.2.1,.raw (gh g 0)]),((gh g 0),.row (zj .i64) b)]))) [.nilslice] (λsa ga _ ho=>?_) λge=>?_
               . refine gct ho (λhk ho=>?_) λhk ho=>?_
                 . refine run 3 ?_;refine zar [1] (by kernel_rfl) ?_;obtain ⟨xb,hI,xd,hJ,xe,hK,ho⟩:=zvJ ho;refine gap λva=>?_;refine run 1 ?_;refine zb4 1 0 (U27).sz rfl rfl (by exact Nat.le_of_ble_eq_true rfl) (.n rfl) rfl rfl (.t rfl) (.t rfl) (by rfl) ?_;exact lv [va] [1,0] ho
                 . exact lv [(gh ga 0)] [0,1] ho
               . refine run 6 ?_;refine znh (zcV 1 0 (q:=2) [] rfl rfl rfl rfl (by rfl) trivial) ?_;obtain ⟨tc,hl,ho⟩:=bnd ho;refine gl2 hl ho [2,4,5,9,17] [] [0] (λs g=>([(19,vI s)],[(.ptr ba 0,.box [.val (zb zav) s_1.1,.val (zb (zj .i64)) s_1.2.1,.val (zb (zj .i64)) ta])])) (λb=>(.exit 2,λg=>([],[]))) (λb=>(.ret,λg=>([(8,vB b)],[]))) [] (λsb gf _ ho=>?_) (λbd ho gb=>?_) λbe ho gb=>?_
                 . refine gct ho (λhm ho=>?_) λhm ho=>?_
                   . obtain ⟨xf,hL,ho⟩:=bnd ho;refine gcl ho λyd hM ho=>?_;refine run 7 ?_;refine zar [1] (by kernel_rfl) ?_;refine glb (s_1.1,s_1.2.1,ta,()) 0 ?_;obtain ⟨xg,hN,ho⟩:=bnd ho;refine gcl ho λye hO ho=>?_;refine wbr ho (λhn ho=>?_) λhn ho=>?_
                     . refine gk ?_;exact we ho
                     . refine wbr ho (λhp ho=>?_) λhp ho=>?_
                       . refine gk ?_;exact we ho
                       . refine wbr ho (λhr ho=>?_) λhr ho=>?_
                         . refine gk ?_;exact we ho
                         . refine run 23 ?_;obtain ⟨xh,hP,ho⟩:=bnd ho;refine wbr ho (λhs ho=>?_) λhs ho=>?_
                           . refine gk ?_;exact we ho
                           . refine run 9 ?_;obtain ⟨xi,hQ,ho⟩:=bnd ho;refine gct ho (λht ho=>?_) λht ho=>?_
                             . exact we ho
                             . exact lv [] [0] ho
                   . exact lv [] [] ho
                 . exact we ho
                 . exact rv ho
         . refine gal λbb=>?_;refine run 5 ?_;refine ze8 (zcS (zj .i64)) ?_;refine zb4 1 0 (U27).sz rfl rfl (by exact Nat.le_of_ble_eq_true rfl) (.n rfl) rfl rfl (.t rfl) .nilr (by rfl) ?_;obtain ⟨tb,hu,ho⟩:=bnd ho;refine glp hu [2,3,4,5,9,17] [] [1,0] (λs g=>([(18,vI s.1)],[(.ptr bb 0,.box [.val (zb zav) s_1.1,.val (zb (zj .i64)) s_1.2.1,.raw (gh g 0)]),((gh g 0),.row (zj .i64) s.2)])) (λb=>(.exit 0,λg=>([],[(.ptr bb 0,.box [.val (zb zav) s_1.1,.val (zb (zj .i64)) s_1.2.1,.raw (gh g 0)]),((gh g 0),.row (zj .i64) b)]))) [.nilslice] (λsc gc _ ho=>?_) λgg=>?_
           . refine gct ho (λhv ho=>?_) λhv ho=>?_
             . refine run 3 ?_;refine zar [1] (by kernel_rfl) ?_;obtain ⟨xj,hR,xk,hS,xl,hT,ho⟩:=zvJ ho;refine gap λvb=>?_;refine run 1 ?_;refine zb4 1 0 (U27).sz rfl rfl (by exact Nat.le_of_ble_eq_true rfl) (.n rfl) rfl rfl (.t rfl) (.t rfl) (by rfl) ?_;exact lv [vb] [1,0] ho
             . exact lv [(gh gc 0)] [0,1] ho
           . refine run 6 ?_;refine znh (zcV 1 0 (q:=2) [] rfl rfl rfl rfl (by rfl) trivial) ?_;obtain ⟨td,hw,ho⟩:=bnd ho;refine gl2 hw ho [2,4,5,9,17] [] [0] (λs g=>([(19,vI s)],[(.ptr bb 0,.box [.val (zb zav) s_1.1,.val (zb (zj .i64)) s_1.2.1,.val (zb (zj .i64)) tb])])) (λb=>(.exit 2,λg=>([],[]))) (λb=>(.ret,λg=>([(8,vB b)],[]))) [] (λsd gi _ ho=>?_) (λbf ho gd=>?_) λbg ho gd=>?_
             . refine gct ho (λhy ho=>?_) λhy ho=>?_
               . obtain ⟨xm,hU,ho⟩:=bnd ho;refine gcl ho λyf hV ho=>?_;refine run 7 ?_;refine zar [1] (by kernel_rfl) ?_;refine glb (s_1.1,s_1.2.1,tb,()) 0 ?_;obtain ⟨xn,hW,ho⟩:=bnd ho;refine gcl ho λyg hX ho=>?_;refine wbr ho (λhz ho=>?_) λhz ho=>?_
                 . refine gk ?_;exact we ho
                 . refine wbr ho (λhA ho=>?_) λhA ho=>?_
                   . refine gk ?_;exact we ho
                   . refine wbr ho (λhB ho=>?_) λhB ho=>?_
                     . refine gk ?_;exact we ho
                     . refine run 23 ?_;obtain ⟨xo,hY,ho⟩:=bnd ho;refine wbr ho (λhC ho=>?_) λhC ho=>?_
                       . refine gk ?_;exact we ho
                       . refine run 9 ?_;obtain ⟨xp,hZ,ho⟩:=bnd ho;refine gct ho (λhD ho=>?_) λhD ho=>?_
                         . exact we ho
                         . exact lv [] [0] ho
               . exact lv [] [] ho
             . exact we ho
             . exact rv ho⟩
end Go.Ai.TabYtppebpagcocogaaGreat