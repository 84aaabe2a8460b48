/- Written by program: walks through functions. -/
import Derived.Test.YtghlaibcihhbcaaGreatK11
import Derived.Test.YtghlaibcihhbcaaGreatK23
import Derived.Test.YtghlaibcihhbcaaGreatK16
import Derived.Test.YtghlaibcihhbcaaGreatK22
import Derived.Test.YtghlaibcihhbcaaGreatK17
import Derived.Test.YtghlaibcihhbcaaGreatK21
import Derived.Test.YtghlaibcihhbcaaGreatK18
import Derived.Test.YtghlaibcihhbcaaGreatK15
set_option linter.unusedSimpArgs false
set_option linter.unusedVariables false
set_option linter.unusedSectionVars false
namespace Go.Ai.TabYtghlaibcihhbcaaGreat
open Go Go.Ai Go.Ai.Sx Go.Proofs
attribute [local irreducible] zm
set_option maxRecDepth 100000
set_option maxHeartbeats 4000000
instance i45 {c_0}:FI ktab 45 (zdQ c_0) [.val (zS zY) c_0] (λout=>[.row zg out]):=⟨λout ho=>by
 delta zdQ at ho;refine fn λ_ _=>?_;refine gnr zg ?_;refine run 3 ?_;refine zfx (X:=zT) (Y:=Int) (λx=>[.val zr x]) (λy=>[.val (zh .u64) y]) (f:=(λx=>zH x c_0)) (λx y hf=>i82.ok _ hf) rfl (.n rfl) rfl rfl .n (.c (.t rfl) .n) ?_;refine run 4 ?_;refine zeM (zbS zg) ?_;refine gal λb1=>?_;refine run 3 ?_;refine zj8 (.n rfl) rfl rfl .n (.c (.t rfl) (.c (.t rfl) .n)) ?_;refine gcl ho λy2 hy2 ho=>?_;intro v3;show zm ..;obtain ⟨ta,ha,ho⟩:=bnd ho;refine glp ha [3,4,5,6,15,16] [] [0,1,2] (λs g=>([(17,vI s.1)],[(v3,.row zr y2),(.ptr b1 0,.box [.raw (gh g 0)]),((gh g 0),.row zg s.2)])) (λb=>(.exit 0,λg=>([],[(.ptr b1 0,.box [.raw (gh g 0)]),((gh g 0),.row zg b)]))) [.nilslice] (λsa gb _ ho=>?_) λgc=>?_
 . refine gct ho (λhc ho=>?_) λhc ho=>?_
   . obtain ⟨xa,hr,ho⟩:=bnd ho;refine gal λba=>?_;refine gfz 1 zr xa 0 [8] ?_;obtain ⟨ya,hd,ho⟩:=bnd ho;refine run 6 ?_;refine ziF (X:=zT) (Y:=Int) (f:=(λx=>zH x c_0)) (x:=xa) hd (.n rfl) rfl rfl rfl (.t rfl) (.c (.t rfl) .n) ?_;show zm ..;obtain ⟨yd,he,ho⟩:=bnd ho;refine run 2 ?_;refine zhi (ps:=[]) (es:=[.val (zh .u64) ya,.val (zd zr) ([xa])]) (cs:=[.val (zS (zS zY)) c_0,.raw (.ptr b1 0)]) [1,2] [0] (λ_ h=>by cases h<;>exact ⟨by kernel_rfl,by kernel_rfl⟩) (zd2 he b1 (gh gb 0)) rfl rfl (by decide) rfl (.n rfl) rfl rfl rfl (.t rfl) (.c (.t rfl) (.c (.t rfl) .n)) ?_;intro gd;show zm ..;obtain ⟨tb,hg,ho⟩:=bnd ho;refine glp hg [3,4,5,6,8,15,16,17,28,29] [2] [0,1,2] (λs g=>([(30,vI s.1)],[(.ptr b1 0,.box [.raw (gh g 0)]),((gh g 0),.row zg s.2)])) (λb=>(.exit 2,λg=>([],[(.ptr b1 0,.box [.raw (gh g 0)]),((gh g 0),.row zg b)]))) [(gh gd 0)] (λsb ga _ ho=>?_) λge=>?_
     . refine gct ho (λhh ho=>?_) λhh ho=>?_
       . obtain ⟨xb,hs,ho⟩:=bnd ho;refine gal λbb=>?_;refine gfz 1 zr xb 0 [10] ?_;obtain ⟨ye,hi,ho⟩:=bnd ho;refine run 5 ?_;refine ziF (X:=zT) (Y:=Int) (f:=(λx=>zH x c_0)) (x:=xa) hi (.n rfl) rfl rfl rfl (.t rfl) (.c (.t rfl) .n) ?_;show zm ..;obtain ⟨yf,hj,ho⟩:=bnd ho;refine run 2 ?_;refine ziF (X:=zT) (Y:=Int) (f:=(λx=>zH x c_0)) (x:=xb) hj (.n rfl) rfl rfl rfl (.t rfl) (.c (.t rfl) .n) ?_;show zm ..;refine gct ho (λhk ho=>?_) λhk ho=>?_
         . obtain ⟨yb,hl,ho⟩:=bnd ho;refine run 4 ?_;refine ziF (X:=zT) (Y:=Int) (f:=(λx=>zH x c_0)) (x:=xa) hl (.n rfl) rfl rfl rfl (.t rfl) (.c (.t rfl) .n) ?_;show zm ..;obtain ⟨yc,hm,ho⟩:=bnd ho;refine run 2 ?_;refine ziF (X:=zT) (Y:=Int) (f:=(λx=>zH x c_0)) (x:=xb) hm (.n rfl) rfl rfl rfl (.t rfl) (.c (.t rfl) .n) ?_;show zm ..;obtain ⟨yg,hn,ho⟩:=bnd ho;refine run 4 ?_;refine zhi (ps:=[]) (es:=[.val (zh .u64) (bOr .u64 yb yc),.val (zd zr) ([xa,xb])]) (cs:=[.val (zS (zS zY)) c_0,.raw (.ptr b1 0)]) [0,1] [2] (λ_ h=>by cases h<;>exact ⟨by kernel_rfl,by kernel_rfl⟩) (zd2 hn b1 (gh ga 0)) rfl rfl (by decide) rfl (.n rfl) rfl rfl rfl (.t rfl) (.c (.t rfl) (.c (.t rfl) .n)) ?_;intro gf;show zm ..;exact lv [(gh gf 0)] [0,1,2] ho
         . exact lv [(gh ga 0)] [0,1,2] ho
       . exact lv [(gh ga 0)] [0,1,2] ho
     . exact lv [(gh ge 0)] [2,0,1] ho
   . exact lv [(gh gb 0)] [1,2] ho
 . obtain ⟨yh,hp,ho⟩:=bnd ho;refine run 3 ?_;refine zoP [1] [0] (λ_ h=>by cases h) (ze7 hp (gh gc 0)) rfl rfl (by decide) rfl (.n rfl) rfl rfl rfl .f (.c (.t rfl) (.c (.fv (zgJ (λx y hf=>i86.ok _ hf) rfl)) .n)) ?_;intro gg;intro va;exact we ho⟩
instance i16 {tasks_0 y_1 cars_2 w_3}:FI ktab 16 (zgC tasks_0 y_1 cars_2 w_3) [.val (zd zby) tasks_0,.val zih y_1,.val (zd (zd (zh .i64))) cars_2,.val zbA w_3] (λout=>[.row zck out.1,wI out.2]):=⟨λout ho=>by
 delta zgC at ho;refine fn λ_ _=>?_;refine gnr zck ?_;refine run 2 ?_;refine zn5 (by exact zlT) ?_;refine gcl ho λy1 hy1 ho=>?_;refine gct ho (λhq2 ho=>?_) λhq2 ho=>?_
 . refine gnr zck ?_;exact we ho
 . refine gct ho (λhq3 ho=>?_) λhq3 ho=>?_
   . refine gnr zck ?_;exact we ho
   . obtain ⟨p4,hp4,ho⟩:=bnd ho;refine run 4 ?_;refine zeM (zct (n:=47) hp4 rfl) ?_;refine gcl ho λy5 hy5 ho=>?_;intro v6;show zm ..;obtain ⟨x7,hx7,ho⟩:=bnd ho;refine run 12 ?_;refine zn7 zaC zlZ rfl (.n rfl) rfl rfl ?_;intro b8;refine run 1 ?_;refine zhk 0 zlZ (.inr rfl) rfl (.n rfl) rfl (.t rfl) (.i (by decide) (by decide)) (.t rfl) rfl ?_;obtain ⟨ta,ha,ho⟩:=bnd ho;refine glp ha [12,13,14,57] [1] [0,1] (λs g=>([(58,.val (zh .u64) s.1)],[(.map b8,.mp (zh .u64) zaC s.2)])) (λb=>(.exit 1,λg=>([],[(.map b8,.mp (zh .u64) zaC b)]))) [] (λsa gd _ ho=>?_) λge=>?_
     . refine gct ho (λhc ho=>?_) λhc ho=>?_
       . obtain ⟨tb,hd,ho⟩:=bnd ho;refine glp hd [12,13,14,15,16,57,58,65,66] [1] [0,1] (λs g=>([(67,vI s.1)],[(.map b8,.mp (zh .u64) zaC s.2)])) (λb=>(.exit 3,λg=>([],[(.map b8,.mp (zh .u64) zaC b)]))) [] (λsb gf _ ho=>?_) λgg=>?_
         . refine gct ho (λhe ho=>?_) λhe ho=>?_
           . obtain ⟨xa,hy,ho⟩:=bnd ho;refine gal λbb=>?_;refine gfz 1 zg xa 0 [18] ?_;refine wbr ho (λhf ho=>?_) λhf ho=>?_
             . refine gk ?_;exact lv [] [0,1] ho
             . refine wbr ho (λhg ho=>?_) λhg ho=>?_
               . refine gk ?_;exact lv [] [0,1] ho
               . refine gct ho (λhh ho=>?_) λhh ho=>?_
                 . exact lv [] [0,1] ho
                 . refine run 8 ?_;refine zjt 0 rfl zlZ iz' rfl (.n rfl) rfl rfl (.t rfl) (.t rfl) ?_;refine gal λbc=>?_;refine gfz 1 zaC ((mget sb.2 (zbI .u64 sa.1 xa.2.1)).getD (0,0,())) 0 [19] ?_;refine gct ho (λhi ho=>?_) λhi ho=>?_
                   . exact lv [] [0,1] ho
                   . refine gal λbd=>?_;refine gfz 1 zaC (((w64 (((mget sb.2 (zbI .u64 sa.1 xa.2.1)).getD (0,0,())).1+1)),(w64 (((mget sb.2 (zbI .u64 sa.1 xa.2.1)).getD (0,0,())).2.1+xa.2.2.1)),()):zbF) 0 [21] ?_;refine run 5 ?_;refine zjt 0 rfl zlZ iz' rfl (.n rfl) rfl rfl (.t rfl) (.t rfl) ?_;refine gal λbe=>?_;refine gfz 1 zaC ((mget sb.2 sa.1).getD (0,0,())) 0 [22] ?_;refine wbr ho (λhj ho=>?_) λhj ho=>?_
                     . refine gk ?_;refine run 4 ?_;refine zhk 0 zlZ (.inl rfl) rfl (.n rfl) rfl (.t rfl) (.t rfl) (.t rfl) rfl ?_;exact lv [] [0,1] ho
                     . refine wbr ho (λhk ho=>?_) λhk ho=>?_
                       . refine gk ?_;refine run 4 ?_;refine zhk 0 zlZ (.inl rfl) rfl (.n rfl) rfl (.t rfl) (.t rfl) (.t rfl) rfl ?_;exact lv [] [0,1] ho
                       . refine wbr ho (λhl ho=>?_) λhl ho=>?_
                         . refine gct ho (λhm ho=>?_) λhm ho=>?_
                           . refine run 4 ?_;refine zhk 0 zlZ (.inl rfl) rfl (.n rfl) rfl (.t rfl) (.t rfl) (.t rfl) rfl ?_;exact lv [] [0,1] ho
                           . exact lv [] [0,1] ho
                         . refine gk ?_;exact lv [] [0,1] ho
           . exact lv [] [0,1] ho
         . exact lv [] [0,1] ho
       . exact lv [] [0,1] ho
     . refine run 4 ?_;refine zjt 0 rfl zlZ iz' rfl (.n rfl) rfl rfl (.t rfl) (.t rfl) ?_;refine gal λba=>?_;refine gct ho (λhn ho=>?_) λhn ho=>?_
       . refine gnr zck ?_;exact we ho
       . refine gnr zck ?_;obtain ⟨tc,hp,ho⟩:=bnd ho;refine glp hp [] [] [1,2,3,0] (λs g=>([(12,.raw v6),(14,.raw (.map b8)),(24,.raw (.ptr ba 0)),(26,.raw (gh g 0)),(27,.val (zh .u64) s.2.1)],[(.ptr ba 0,.box [vI s.2.2.1,vI s.2.2.2]),(.map b8,.mp (zh .u64) zaC ta),(v6,.row zg y5),((gh g 0),.row zck s.1)])) (λb=>(.exit 5,λg=>([(26,.raw (gh g 0))],[((gh g 0),.row zck b)]))) [.nilslice] (λsd gc _ ho=>?_) λgi=>?_
         . refine gct ho (λhr ho=>?_) λhr ho=>?_
           . obtain ⟨td,hs,ho⟩:=bnd ho;refine gl2 hs ho [12,14,24,152,153] [] [0,1,2,3] (λs g=>([(26,.raw (gh g 0)),(27,.val (zh .u64) s.2.1),(154,vI s.2.2.1)],[(.ptr ba 0,.box [vI s.2.2.2.1,vI s.2.2.2.2]),(.map b8,.mp (zh .u64) zaC ta),(v6,.row zg y5),((gh g 0),.row zck s.1)])) (λb=>(.exit 6,λg=>([(26,.raw (gh g 0)),(27,.val (zh .u64) b.2.1),(173,vB b.2.2.1),(176,.val zaC b.2.2.2.1),(178,vI b.2.2.2.2.1),(179,vI b.2.2.2.2.2.1),(181,vI b.2.2.2.2.2.2.1),(182,.val (zS (zh .i64)) b.2.2.2.2.2.2.2.1),(183,vI b.2.2.2.2.2.2.2.2.1),(184,vI b.2.2.2.2.2.2.2.2.2.1),(185,.val zaC b.2.2.2.2.2.2.2.2.2.2.1),(186,vB b.2.2.2.2.2.2.2.2.2.2.2.1)],[(.ptr ba 0,.box [vI b.2.2.2.2.2.2.2.2.2.2.2.2.1,vI b.2.2.2.2.2.2.2.2.2.2.2.2.2]),(.map b8,.mp (zh .u64) zaC ta),(v6,.row zg y5),((gh g 0),.row zck b.1)]))) (λb=>(.exit 7,λg=>([(26,.raw (gh g 0))],[((gh g 0),.row zck b.1)]))) [(gh gc 0)] (λsc ga _ ho=>?_) (λbf ho gb=>?_) λbg ho gb=>?_
             . refine gct ho (λht ho=>?_) λht ho=>?_
               . obtain ⟨xb,hz,ho⟩:=bnd ho;refine gal λbh=>?_;refine gfz 1 zg xb 0 [29] ?_;refine run 8 ?_;refine zjt 1 rfl zlZ iz' rfl (.n rfl) rfl rfl (.t rfl) (.t rfl) ?_;refine gal λbi=>?_;refine gfz 1 zaC ((mget ta (zbI .u64 sc.2.1 xb.2.1)).getD (0,0,())) 0 [30] ?_;refine wbr ho (λhu ho=>?_) λhu ho=>?_
                 . refine wbr ho (λhv ho=>?_) λhv ho=>?_
                   . refine gct ho (λhw ho=>?_) λhw ho=>?_
                     . obtain ⟨xd,hA,ho⟩:=bnd ho;refine gap λva=>?_;exact lv [va] [1,2,3,0] ho
                     . exact lv [(gh ga 0)] [0,1,2,3] ho
                   . refine gk ?_;exact lv [(gh ga 0)] [0,1,2,3] ho
                 . refine gk ?_;exact lv [(gh ga 0)] [0,1,2,3] ho
               . exact lv [(gh ga 0)] [3] ho
             . cases ho; exact id (lf [(gh gb 0)] [0,1,2,3])
             . exact lv [(gh gb 0)] [0] ho
           . exact lv [(gh gc 0)] [3] ho
         . exact we ho⟩
instance i17 {tasks_0 y_1 cars_2 w_3}:FI ktab 17 (zhL tasks_0 y_1 cars_2 w_3) [.val (zd zby) tasks_0,.val zih y_1,.val (zd (zd (zh .i64))) cars_2,.val zbA w_3] (λout=>[.row (zh .i64) out.1,wI out.2]):=⟨λout ho=>by
 delta zhL at ho;refine fn λ_ _=>?_;refine gnr (zh .i64) ?_;refine gcl ho λy1 hy1 ho=>?_;refine gct ho (λhq2 ho=>?_) λhq2 ho=>?_
 . refine gnr (zh .i64) ?_;exact we ho
 . obtain ⟨x3,hx3,ho⟩:=bnd ho;refine gmk λv4=>?_;obtain ⟨p5,hp5,ho⟩:=bnd ho;refine run 6 ?_;refine zeM (zct (n:=33) hp5 rfl) ?_;refine gcl ho λy6 hy6 ho=>?_;intro v7;show zm ..;obtain ⟨ta,ha,ho⟩:=bnd ho;refine glp ha [2,10,12,34,35] [] [0,1] (λs g=>([(36,vI s.1)],[(v7,.row zr y6),(v4,.row zu s.2)])) (λb=>(.exit 0,λg=>([],[(v4,.row zu b)]))) [] (λsa gb _ ho=>?_) λgc=>?_
   . refine gct ho (λhc ho=>?_) λhc ho=>?_
     . obtain ⟨xa,hk,ho⟩:=bnd ho;refine gal λba=>?_;refine gfz 1 zr xa 0 [14] ?_;obtain ⟨pa,hd,ho⟩:=bnd ho;refine run 7 ?_;refine zeM (zct (n:=40) hd rfl) ?_;refine gcl ho λya hl ho=>?_;intro vb;show zm ..;refine gct ho (λhe ho=>?_) λhe ho=>?_
       . obtain ⟨xb,hm,xd,hn,tb,hf,ho⟩:=zpQ ho;refine glp hf [2,10,12,34,35,36,57,58] [1] [2,1] (λs g=>([(59,vI s.1)],[(v4,.row zu s.2)])) (λb=>(.exit 2,λg=>([],[(v4,.row zu b)]))) [] (λsb gd _ ho=>?_) λge=>?_
         . refine gct ho (λhg ho=>?_) λhg ho=>?_
           . obtain ⟨xe,hp,xf,hr,ho⟩:=zfI ho;exact lv [] [0,1] ho
           . exact lv [] [0,1] ho
         . exact lv [] [1,0] ho
       . exact lv [] [1,2] ho
     . exact lv [] [1] ho
   . refine gnr (zh .i64) ?_;obtain ⟨tc,hh,ho⟩:=bnd ho;refine glp hh [68,69] [] [1,0] (λs g=>([(17,.raw (gh g 0)),(70,vI s.2)],[(v4,.row zu ta),((gh g 0),.row (zh .i64) s.1)])) (λb=>(.exit 4,λg=>([(17,.raw (gh g 0))],[((gh g 0),.row (zh .i64) b)]))) [.nilslice] (λsc ga _ ho=>?_) λgf=>?_
     . refine gct ho (λhi ho=>?_) λhi ho=>?_
       . obtain ⟨xg,hs,ho⟩:=bnd ho;refine gct ho (λhj ho=>?_) λhj ho=>?_
         . obtain ⟨xh,ht,ho⟩:=bnd ho;refine gap λva=>?_;exact lv [va] [1,0] ho
         . exact lv [(gh ga 0)] [0,1] ho
       . exact lv [(gh ga 0)] [1] ho
     . exact we ho⟩
instance i19 {a_0 b_1}:FI ktab 19 (zdW a_0 b_1) [.val (zd (zh .i64)) a_0,.val (zd (zh .i64)) b_1] (λout=>[wB out]):=⟨λout ho=>by
 delta zdW at ho;refine fn λ_ _=>?_;refine gct ho (λhq1 ho=>?_) λhq1 ho=>?_
 . exact we ho
 . obtain ⟨ta,ha,ho⟩:=bnd ho;refine gl2 ha ho [0,1] [] [] (λs g=>([(5,vI s)],[])) (λb=>(.exit 0,λg=>([],[]))) (λb=>(.ret,λg=>([(4,vB b)],[]))) [] (λs8 g9 _ ho=>?_) (λba ho ga=>?_) λbb ho ga=>?_
   . exact we ho
   . exact we ho
   . exact rv ho⟩
instance i18 {a_0 b_1}:FI ktab 18 (zgD a_0 b_1) [.val (zd (zd (zh .i64))) a_0,.val (zd (zd (zh .i64))) b_1] (λout=>[wB out]):=⟨λout ho=>by
 delta zgD at ho;refine fn λ_ _=>?_;refine gct ho (λhq1 ho=>?_) λhq1 ho=>?_
 . exact we ho
 . obtain ⟨ta,ha,ho⟩:=bnd ho;refine gl2 ha ho [0,1] [] [] (λs g=>([(5,vI s)],[])) (λb=>(.exit 0,λg=>([],[]))) (λb=>(.ret,λg=>([(4,vB b)],[]))) [] (λsa gb _ ho=>?_) (λba ho ga=>?_) λbb ho ga=>?_
   . exact we ho
   . exact we ho
   . exact rv ho⟩
instance i48 {a_0 b_1}:FI ktab 48 (zfY a_0 b_1) [.val zck a_0,.val zck b_1] (λout=>[wB out]):=⟨λout ho=>by
 delta zfY at ho;refine fn λ_ _=>?_;refine gct ho (λhq1 ho=>?_) λhq1 ho=>?_
 . exact we ho
 . obtain ⟨ta,ha,ho⟩:=bnd ho;refine gl2 ha ho [2,3] [] [] (λs g=>([(5,vI s)],[])) (λb=>(.exit 0,λg=>([],[]))) (λb=>(.ret,λg=>([(4,vB b)],[]))) [] (λs8 g9 _ ho=>?_) (λba ho ga=>?_) λbb ho ga=>?_
   . exact we ho
   . exact we ho
   . exact rv ho⟩
instance i20 {a_0 b_1}:FI ktab 20 (zgE a_0 b_1) [.val (zd zck) a_0,.val (zd zck) b_1] (λout=>[wB out]):=⟨λout ho=>by
 delta zgE at ho;refine fn λ_ _=>?_;refine gct ho (λhq1 ho=>?_) λhq1 ho=>?_
 . exact we ho
 . obtain ⟨ta,ha,ho⟩:=bnd ho;refine gl2 ha ho [0,1] [] [] (λs g=>([(5,vI s)],[])) (λb=>(.exit 0,λg=>([],[]))) (λb=>(.ret,λg=>([(4,vB b)],[]))) [] (λsa gb _ ho=>?_) (λba ho ga=>?_) λbb ho ga=>?_
   . exact we ho
   . exact we ho
   . exact rv ho⟩
instance i6:FI ktab 6 (zb7) [] (λout=>[wB out]):=⟨λout ho=>by
 delta zb7 at ho;refine fn λ_ _=>?_;refine gcl ho λy1 hy1 ho=>?_;refine gal λb2=>?_;refine gal λb3=>?_;refine gfz 2 zih y1.2.1 1 [2] ?_;refine gcl ho λy4 hy4 ho=>?_;intro v5;show zm ..;refine gal λb6=>?_;refine gfz 2 zfm y4.2.1 0 [5] ?_;refine glb y1.2.2 1 ?_;refine gcl ho λy7 hy7 ho=>?_;intro v8;show zm ..;refine glb ((129,y1.2.2.2.1,y1.2.2.2.2.1,y1.2.2.2.2.2.1,y1.2.2.2.2.2.2.1,y1.2.2.2.2.2.2.2.1,()):zeN) 2 ?_;refine gcl ho λy9 hy9 ho=>?_;intro va;show zm ..;obtain ⟨ca,ha,ho⟩:=bnd ho;refine run 8 ?_;refine gcx ca [4,5,7,9] [0,1,2,3] (λt=>(.normal,λ_=>([(53,vB t)],[]))) ?_ λ_=>?_
 . have ho:=ha;refine wbr ho (λhc ho=>?_) λhc ho=>?_
   . exact lv [] [0,1,2,3] ho
   . refine wbr ho (λhd ho=>?_) λhd ho=>?_
     . exact lv [] [0,1,2,3] ho
     . exact lv [] [0,1,2,3] ho
 . refine gct ho (λhe ho=>?_) λhe ho=>?_
   . exact we ho
   . obtain ⟨cc,hf,ho⟩:=bnd ho;refine run 2 ?_;refine gcx cc [] [0,1,2,3] (λt=>(.normal,λ_=>([(0,vB t)],[]))) ?_ λ_=>?_
     . have ho:=hf;refine gcl ho λya hk ho=>?_;refine wbr ho (λhg ho=>?_) λhg ho=>?_
       . refine gcl ho λyb hl ho=>?_;refine wbr ho (λhh ho=>?_) λhh ho=>?_
         . refine gcl ho λyc hm ho=>?_;refine wbr ho (λhi ho=>?_) λhi ho=>?_
           . refine gcl ho λyd hn ho=>?_;refine wbr ho (λhj ho=>?_) λhj ho=>?_
             . refine gcl ho λye hp ho=>?_;exact lv [] [0,1,2,3] ho
             . exact lv [] [0,1,2,3] ho
           . exact lv [] [0,1,2,3] ho
         . exact lv [] [0,1,2,3] ho
       . exact lv [] [0,1,2,3] ho
     . exact rv ho⟩
end Go.Ai.TabYtghlaibcihhbcaaGreat
/- Written by program: walks through functions. -/
namespace Go.Ai.TabYtghlaibcihhbcaaGreat
open Go Go.Ai Go.Ai.Sx Go.Proofs
attribute [local irreducible] zm
set_option maxRecDepth 100000
set_option maxHeartbeats 4000000
instance i21 {p_0 s_1}:FI ktab 21 (zeg p_0 s_1) [.val zbJ p_0,.val zc0 s_1] (λout=>[wI out]):=fw
instance i49 {home_0}:FI ktab 49 (zfZ home_0) [vB home_0] (λout=>[wI out]):=fw
instance i23 {p_0 l_1 home_2}:FI ktab 23 (zbP p_0 l_1 home_2) [.val zbJ p_0,.val ze3 l_1,vB home_2] (λout=>[.val (zd (zh .i64)) out.1,wI out.2]):=⟨λout ho=>by
 delta zbP at ho;refine fn λ_ _=>?_;refine run 4 ?_;refine zd7 (.n rfl) rfl rfl (.nil (R:=(zh .i64))) ?_;refine gcl ho λy1 hy1 ho=>?_;refine gct ho (λhq2 ho=>?_) λhq2 ho=>?_
 . refine run 2 ?_;refine zd7 (.n rfl) rfl rfl (.nil (R:=(zh .i64))) ?_;exact we ho
 . refine gcl ho λy6 hy6 ho=>?_;obtain ⟨p7,hp7,ho⟩:=bnd ho;refine zeM (zct (n:=18) hp7 rfl) ?_;obtain ⟨x8,hx8,ho⟩:=bnd ho;refine run 2 ?_;refine zcX ia' hx8 (.n rfl) rfl rfl (.t rfl) (.t rfl) ?_;exact we ho⟩
instance i7 {p_0 s_1 trips_2}:FI ktab 7 (zeT p_0 s_1 trips_2) [.val zbJ p_0,.val zc0 s_1,.val (zd zhJ) trips_2] (λout=>[.row zby out.1,wI out.2]):=⟨λout ho=>by
 delta zeT at ho;refine fn λ_ _=>?_;refine gnr zby ?_;refine gcl ho λy1 hy1 ho=>?_;refine gct ho (λhq2 ho=>?_) λhq2 ho=>?_
 . refine gnr zby ?_;exact we ho
 . obtain ⟨ta,ha,ho⟩:=bnd ho;refine gl2 ha ho [2,3,4,20,21] [] [] (λs g=>([(22,vI s)],[])) (λb=>(.exit 0,λg=>([],[]))) (λb=>(.ret,λg=>([(6,.raw (gh g 0)),(7,vI b.2)],[((gh g 0),.row zby b.1)]))) [] (λsa gd _ ho=>?_) (λba ho ga=>?_) λbb ho ga=>?_
   . refine gct ho (λhc ho=>?_) λhc ho=>?_
     . obtain ⟨xd,hp,ho⟩:=bnd ho;refine gal λbc=>?_;refine gfz 2 zhJ xd 0 [9] ?_;refine gcl ho λya hr ho=>?_;refine wbr ho (λhd ho=>?_) λhd ho=>?_
       . refine gk ?_;refine gnr zby ?_;exact lv [.nilslice] [0] ho
       . refine gcl ho λyb hs ho=>?_;refine wbr ho (λhe ho=>?_) λhe ho=>?_
         . refine gk ?_;refine gnr zby ?_;exact lv [.nilslice] [0] ho
         . refine wbr ho (λhf ho=>?_) λhf ho=>?_
           . obtain ⟨xe,ht,ho⟩:=bnd ho;refine gct ho (λhg ho=>?_) λhg ho=>?_
             . refine gnr zby ?_;exact lv [.nilslice] [0] ho
             . exact we ho
           . refine gk ?_;exact we ho
     . exact lv [] [] ho
   . refine gct ho (λhh ho=>?_) λhh ho=>?_
     . refine gnr zby ?_;exact we ho
     . refine gnr zby ?_;obtain ⟨tb,hi,ho⟩:=bnd ho;refine gl2 hi ho [3,4,60,61] [] [0] (λs g=>([(10,.raw (gh g 0)),(62,vI s.2)],[((gh g 0),.row zby s.1)])) (λb=>(.exit 2,λg=>([(10,.raw (gh g 0))],[((gh g 0),.row zby b)]))) (λb=>(.ret,λg=>([(6,.raw (gh g 0)),(7,vI b.2)],[((gh g 0),.row zby b.1)]))) [.nilslice] (λsb gb _ ho=>?_) (λbd ho gc=>?_) λbe ho gc=>?_
       . refine gct ho (λhj ho=>?_) λhj ho=>?_
         . obtain ⟨xa,hu,ho⟩:=bnd ho;refine gal λbf=>?_;refine gfz 1 zhJ xa 0 [12] ?_;obtain ⟨xf,hv,ho⟩:=bnd ho;refine gcl ho λyc hw ho=>?_;refine gct ho (λhk ho=>?_) λhk ho=>?_
           . refine gnr zby ?_;exact lv [.nilslice] [0] ho
           . obtain ⟨xb,hy,ho⟩:=bnd ho;refine gal λbg=>?_;refine gct ho (λhl ho=>?_) λhl ho=>?_
             . refine gct ho (λhm ho=>?_) λhm ho=>?_
               . refine gnr zby ?_;exact lv [.nilslice] [0] ho
               . refine glb ((w64 ((w64 (2*xa.1))+1)),(w64 (2*xa.1)),xa.2.2.2.1,(w64 (xa.2.2.2.1+xb)),()) 0 ?_;obtain ⟨xg,hz,ho⟩:=bnd ho;refine gap λva=>?_;exact lv [va] [0] ho
             . refine gct ho (λhn ho=>?_) λhn ho=>?_
               . refine gnr zby ?_;exact lv [.nilslice] [0] ho
               . refine glb (((w64 (2*xa.1)),(w64 ((w64 (2*xa.1))+1)),xa.2.2.2.1,(w64 (xa.2.2.2.1+xb)),()):Task) 0 ?_;obtain ⟨xh,hA,ho⟩:=bnd ho;refine gap λvb=>?_;exact lv [vb] [0] ho
         . exact lv [(gh gb 0)] [0] ho
       . exact we ho
       . exact rv ho
   . exact rv ho⟩
instance i27 {x_0 low_1 high_2}:FI ktab 27 (zgd x_0 low_1 high_2) [vI x_0,vI low_1,vI high_2] (λout=>[wB out]):=⟨λout ho=>by
 delta zgd at ho;refine fn λ_ _=>?_;obtain ⟨c2,hc2,ho⟩:=bnd ho;refine run 5 ?_;refine gcx c2 [] [] (λt=>(.normal,λ_=>([(6,vB t)],[]))) ?_ λ_=>?_
 . exact we hc2
 . exact rv ho⟩
instance i9 {s_0 trips_1}:FI ktab 9 (zek s_0 trips_1) [.val zc0 s_0,.val (zd zhJ) trips_1] (λout=>[wB out]):=⟨λout ho=>by
 delta zek at ho;refine fn λ_ _=>?_;obtain ⟨ta,ha,ho⟩:=bnd ho;refine gl2 ha ho [1,2] [] [] (λs g=>([(5,vI s)],[])) (λb=>(.exit 0,λg=>([],[]))) (λb=>(.ret,λg=>([(4,vB b)],[]))) [] (λsa gb _ ho=>?_) (λba ho ga=>?_) λbb ho ga=>?_
 . refine gct ho (λhc ho=>?_) λhc ho=>?_
   . obtain ⟨xa,hg,ho⟩:=bnd ho;refine gcl ho λya hh ho=>?_;refine wbr ho (λhd ho=>?_) λhd ho=>?_
     . refine gk ?_;exact we ho
     . refine run 4 ?_;obtain ⟨xb,hi,ho⟩:=bnd ho;refine gcl ho λyb hj ho=>?_;refine wbr ho (λhe ho=>?_) λhe ho=>?_
       . refine gk ?_;exact we ho
       . refine wbr ho (λhf ho=>?_) λhf ho=>?_
         . refine run 6 ?_;exact we ho
         . refine gk ?_;exact we ho
   . exact lv [] [] ho
 . exact we ho
 . exact rv ho⟩
instance i10 {p_0 s_1 trips_2}:FI ktab 10 (zel p_0 s_1 trips_2) [.val zbJ p_0,.val zc0 s_1,.val (zd zhJ) trips_2] (λout=>[.row zby out.1,wB out.2]):=⟨λout ho=>by
 delta zel at ho;refine fn λ_ _=>?_;refine gnr zby ?_;refine gnr zby ?_;obtain ⟨ta,ha,ho⟩:=bnd ho;refine gl2 ha ho [2,3,4] [] [0] (λs g=>([(8,.raw (gh g 0)),(9,vI s.2)],[((gh g 0),.row zby s.1)])) (λb=>(.exit 0,λg=>([(8,.raw (gh g 0))],[((gh g 0),.row zby b)]))) (λb=>(.ret,λg=>([(6,.raw (gh g 0)),(7,vB b.2)],[((gh g 0),.row zby b.1)]))) [.nilslice] (λsa ga _ ho=>?_) (λba ho gb=>?_) λbb ho gb=>?_
 . refine gct ho (λhc ho=>?_) λhc ho=>?_
   . obtain ⟨xa,hg,ho⟩:=bnd ho;refine gal λbc=>?_;refine gfz 1 zhJ xa 0 [10] ?_;obtain ⟨xd,hh,ho⟩:=bnd ho;refine gcl ho λya hi ho=>?_;intro vc;show zm ..;refine run 3 ?_;refine zao [16] (by kernel_rfl) ?_;obtain ⟨xb,hj,ho⟩:=bnd ho;refine gal λbd=>?_;refine gct ho (λhd ho=>?_) λhd ho=>?_
     . refine gct ho (λhe ho=>?_) λhe ho=>?_
       . refine gnr zby ?_;exact lv [.nilslice] [0] ho
       . refine glb ((w64 ((w64 (2*xa.1))+1)),(w64 (2*xa.1)),xa.2.2.2.1,(w64 (xa.2.2.2.1+xb)),()) 0 ?_;obtain ⟨xe,hk,ho⟩:=bnd ho;refine gap λva=>?_;exact lv [va] [0] ho
     . refine gct ho (λhf ho=>?_) λhf ho=>?_
       . refine gnr zby ?_;exact lv [.nilslice] [0] ho
       . refine glb (((w64 (2*xa.1)),(w64 ((w64 (2*xa.1))+1)),xa.2.2.2.1,(w64 (xa.2.2.2.1+xb)),()):Task) 0 ?_;obtain ⟨xf,hl,ho⟩:=bnd ho;refine gap λvb=>?_;exact lv [vb] [0] ho
   . exact lv [(gh ga 0)] [0] ho
 . exact we ho
 . exact rv ho⟩
instance i3 {p_0 s_1 trips_2}:FI ktab 3 (zcz p_0 s_1 trips_2) [.val zbJ p_0,.val zc0 s_1,.val (zd zhJ) trips_2] (λout=>[wB out]):=⟨λout ho=>by
 delta zcz at ho;refine fn λ_ _=>?_;obtain ⟨c3,hc3,ho⟩:=bnd ho;refine run 8 ?_;refine gcx c3 [2,3,4] [] (λt=>(.normal,λ_=>([(20,vB t)],[]))) ?_ λ_=>?_
 . exact we hc3
 . refine gct ho (λhq6 ho=>?_) λhq6 ho=>?_
   . exact we ho
   . refine gcl ho λy8 hy8 ho=>?_;intro v9;show zm ..;obtain ⟨ca,ha,ho⟩:=bnd ho;refine run 8 ?_;refine gcx ca [2,3,4,7,8] [0] (λt=>(.normal,λ_=>([(38,vB t)],[]))) ?_ λ_=>?_
     . have ho:=ha;refine gcl ho λyb ht ho=>?_;refine wbr ho (λhc ho=>?_) λhc ho=>?_
       . exact lv [] [0] ho
       . refine gcl ho λyc hu ho=>?_;exact lv [] [0] ho
     . refine gct ho (λhd ho=>?_) λhd ho=>?_
       . obtain ⟨cc,he,ho⟩:=bnd ho;refine run 1 ?_;refine gcx cc [] [0] (λt=>(.normal,λ_=>([(6,vB t)],[]))) ?_ λ_=>?_
         . have ho:=he;refine wbr ho (λhf ho=>?_) λhf ho=>?_
           . refine wbr ho (λhg ho=>?_) λhg ho=>?_
             . refine gcl ho λyd hv ho=>?_;exact lv [] [0] ho
             . exact lv [] [0] ho
           . exact lv [] [0] ho
         . exact rv ho
       . refine gcl ho λya hw ho=>?_;intro va;show zm ..;refine gct ho (λhh ho=>?_) λhh ho=>?_
         . obtain ⟨cd,hi,ho⟩:=bnd ho;refine run 1 ?_;refine gcx cd [] [0,1] (λt=>(.normal,λ_=>([(6,vB t)],[]))) ?_ λ_=>?_
           . have ho:=hi;refine wbr ho (λhj ho=>?_) λhj ho=>?_
             . refine wbr ho (λhk ho=>?_) λhk ho=>?_
               . refine gcl ho λye hy ho=>?_;exact lv [] [0,1] ho
               . exact lv [] [0,1] ho
             . exact lv [] [0,1] ho
           . exact rv ho
         . obtain ⟨ce,hl,ho⟩:=bnd ho;refine run 3 ?_;refine gcx ce [7,9] [0,1] (λt=>(.normal,λ_=>([(76,vB t)],[]))) ?_ λ_=>?_
           . have ho:=hl;refine wbr ho (λhm ho=>?_) λhm ho=>?_
             . exact lv [] [0,1] ho
             . exact lv [] [0,1] ho
           . refine gct ho (λhn ho=>?_) λhn ho=>?_
             . exact we ho
             . obtain ⟨ta,hp,ho⟩:=bnd ho;refine gl2 hp ho [7,9] [] [0,1] (λs g=>([(11,vI s)],[(va,.row zby ya.1),(v9,.row zby y8.1)])) (λb=>(.exit 0,λg=>([],[]))) (λb=>(.ret,λg=>([(6,vB b)],[]))) [] (λsa gb _ ho=>?_) (λba ho ga=>?_) λbb ho ga=>?_
               . refine gct ho (λhr ho=>?_) λhr ho=>?_
                 . refine run 4 ?_;refine zao [3,7] (by kernel_rfl) ?_;obtain ⟨xa,hz,xb,hA,ho⟩:=zfI ho;refine gct ho (λhs ho=>?_) λhs ho=>?_
                   . exact we ho
                   . exact lv [] [0,1] ho
                 . exact lv [] [] ho
               . exact we ho
               . exact rv ho⟩
end Go.Ai.TabYtghlaibcihhbcaaGreat
/- The statement DutyTrips holds,for every input; no condition. -/
namespace Go.Proofs.YtghlaibcihhbcaaGreat
open Go Go.Ai Go.Ai.Sx Go.Ai.TabYtghlaibcihhbcaaGreat
def ziU:zsd (Plan×Service×(List Trip)×Unit):=zq9 zbJ (zq9 zc0 (zq9 (zd zhJ) zyA))
theorem zou:zm6 Tryz.prog [25,29,30] ziU:=zhI o25 (by kernel_rfl) (zhI o29 (by kernel_rfl) (zhI o30 (by kernel_rfl) zpL))
theorem zwv {A:Type} {R:Rep A} {z:Store} {v:ze} {xs:List A} (r:zhr R z v xs) {i:Nat} {x:A} (h:xs[i]?=some x):∃ cs,R.rel z cs x:=by
 obtain ⟨_,⟨_,rfl⟩ | ⟨_,_,_,_,rfl,_⟩ | ⟨_,_,_,_,_,_,_,_,_,q⟩⟩:=r
 . simp at h
 . simp at h
 . exact ⟨_,q i x h⟩
theorem zhp {z:Store} {cs:List ze} {c:Course} (h:zcU.rel z cs c):c.1.length<=9223372036854775807/\c.2.1.length<=9223372036854775807:=by
 obtain ⟨_,_,_,⟨_,_,h1⟩,⟨_,_,_,⟨_,_,h2⟩,_⟩⟩:=h;exact ⟨h1.1,h2.1⟩
theorem zt6 {z:Store} {cs:List ze} {l:Line} (h:ze3.rel z cs l):LnB l:=by
 obtain ⟨_,_,_,h1,⟨_,_,_,h2,_⟩⟩:=h;exact ⟨(zhp h1).1,(zhp h1).2,(zhp h2).1,(zhp h2).2⟩
theorem zww {z:Store} {vs:List ze} {x:Plan×Service×(List Trip)×Unit} (h:ziU.rel z vs x):∀ i,i<x.2.1.1.length->LnB (ln0 x.2.1 i):=by
 obtain ⟨_,_,_,_,_,_,_,h2,_⟩:=h;obtain ⟨_,_,_,⟨_,_,h3⟩,_⟩:=h2.rel;intro i hi;obtain ⟨cs,h4⟩:=zwv h3 (List.getElem?_eq_getElem hi);have h5:=zt6 h4;have e:ln0 x.2.1 i=x.2.1.1[i]:=by unfold ln0; simp [hi]
 rw [e]; exact h5
set_option maxRecDepth 100000 in
theorem zyW:(Rows.dutyTripsRow.inPlace==Tryz.prog.inPlace 3)=true:=by kernel_rfl
set_option maxRecDepth 100000 in
theorem zyX:(Rows.dutyTripsRow.unfollowed==Tryz.prog.unfollowed 3)=true:=by kernel_rfl
set_option maxRecDepth 100000 in
theorem zyY:(Rows.dutyTripsRow.recurses==Tryz.prog.recurses 3)=true:=by kernel_rfl
set_option maxRecDepth 100000 in
theorem zyZ:(Rows.dutyTripsRow.named==Tryz.prog.varsNamed 3)=true:=by kernel_rfl
set_option maxRecDepth 100000 in
theorem zy0:(Rows.dutyTripsRow.loops==(Tryz.f3.params.toList++Rows.dutyTripsSpec.plain.varTypes Tryz.prog).any (Tryz.prog.loopsFrom ·))=true:=by kernel_rfl
set_option maxRecDepth 100000 in
theorem zy1:Rows.dutyTripsRow.wf (OpenSpec.ofChange Rows.dutyTripsSpec)=true:=by kernel_rfl
set_option maxRecDepth 100000 in
theorem zy2:Tryz.f3.params.all (Tryz.prog.readableRec ·)=true:=by kernel_rfl
set_option maxRecDepth 100000 in
theorem zy3:(Rows.dutyTripsRow.maps==(Tryz.f3.params.toList++Rows.dutyTripsSpec.plain.varTypes Tryz.prog).any (Tryz.prog.mapsRec ·))=true:=by kernel_rfl
set_option maxRecDepth 100000 in
theorem zy4:(Rows.dutyTripsRow.ifaces==(Tryz.f3.params.toList++Rows.dutyTripsSpec.plain.varTypes Tryz.prog).any (Tryz.prog.ifacesRec ·))=true:=by kernel_rfl
set_option maxRecDepth 100000 in
theorem zwx:joinedFacts Tryz.prog 3 Tryz.f3 Rows.dutyTripsSpec Rows.dutyTripsRow=true:=by
 unfold joinedFacts;exact (zhM (zhM (zhM (zhM (zhM (zhM (zhM (zhM (zhM (zhM (zhM (zhM (zhM (zhM (zhM (zhM (zhM (zhM (zhM (zhM (zhM (zhM (zhM (zhM (zhM (zhM (zhM (zhM (zhM (zhM (zhM zy1 zrj) zxu) zy2) (by kernel_rfl)) rfl) zvS) rfl) zvT) zyW) zyX) zyY) zyZ) zy3) zy4) (by kernel_rfl)) zy0) (by kernel_rfl)) (by kernel_rfl)) (by kernel_rfl)) (by kernel_rfl)) (by kernel_rfl)) zvU) rfl) zvV) zvW) zxv) zxw) (by kernel_rfl)) (by kernel_rfl)) (by kernel_rfl)) (by kernel_rfl))
set_option maxRecDepth 100000 in
theorem trips_holds:Rows.DutyTripsSaid:=
 OpenClaim.holds_of_wide 3 Tryz.f3 rfl rfl rfl rfl rfl rfl rfl ⟨rfl,rfl,rfl,rfl,rfl⟩ rfl rfl rfl rfl rfl (by kernel_rfl) Tryz.func3 zwx
  (of_decide_eq_true (by kernel_rfl)) (by unfold Func.isWrapper; first | (rw [if_pos (by decide +kernel)]; kernel_rfl) | (rw [if_neg (by decide +kernel)]; exact ⟨rfl,rfl⟩))
  (λos started H enc _=>by
   show ReturnsInHanded {} Tryz.checked os 3 .any (Rows.dutyTripsSpec.pre6 enc Tryz.prog Tryz.f3 Rows.dutyTripsRow.domain false) (Rows.dutyTripsSpec.post enc Tryz.prog Tryz.f3 false true false false);refine returnsInHanded_of_change_shaped (C:=Tryz.checked) own started (by kernel_rfl) Tryz.func3
    (ChangeSpec.witness6 (enc:=enc) (C:=Tryz.checked) false ⟨#[],#[.agg #[.slice none 0 0,.slice none 0 0],.agg #[.slice none 0 0,.slice none 0 0,.slice none 0 0],.slice none 0 0],[]⟩ 3 (by kernel_rfl) (by kernel_rfl) (by kernel_rfl) (by kernel_rfl)) ?_
   intro W base args ds gs before hval hW _ _ hsh _;exact zm7 (C:=Tryz.checked) zvd zrj rfl (tb:=4) (by kernel_rfl) Tryz.underlying4 (by rw [Tryz.params3]; decide +kernel) (λH ds hd=>by
    match ds,hd with
    | [_,_,_],_=>rfl) (by rw [Tryz.params3]; exact zou)
    (zu9 (S:=ziU) (zlY (zlY (zlY zu8))) (λz vs x hx=>i3.ok _ (zp5 x.1 x.2.1 x.2.2.1 (zww hx)))) (ztc hsh) hval hW)
end Go.Proofs.YtghlaibcihhbcaaGreat