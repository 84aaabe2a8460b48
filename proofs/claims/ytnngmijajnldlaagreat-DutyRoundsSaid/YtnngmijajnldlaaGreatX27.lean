/- Written by program: walks through functions. -/
import Derived.Test.YtnngmijajnldlaaGreatX11
import Derived.Test.YtnngmijajnldlaaGreatX26
import Derived.Test.YtnngmijajnldlaaGreatX19
import Derived.Test.YtnngmijajnldlaaGreatX18
import Derived.Test.YtnngmijajnldlaaGreatX25
import Derived.Test.YtnngmijajnldlaaGreatX17
set_option linter.unusedSimpArgs false
set_option linter.unusedVariables false
set_option linter.unusedSectionVars false
open Option renaming some→Ob,none→Oe
open Bool renaming false→Oc,true→Od
namespace Go.Ai.TabYtnngmijajnldlaaGreat
open Go Go.Ai Go.Ai.Sx Go.Proofs
attribute [local irreducible] zm
set_option maxRecDepth 100000
set_option maxHeartbeats 4000000
instance i36 {c_0}:FI ktab 36 (zd9 c_0) [.val (zL z8) c_0] (λout=>[.row zg out]):=⟨λout ho=>by
 delta zd9 at ho;refine fn λ_ _=>?_;refine gnr zg ?_;refine run 3 ?_;refine zeB (X:=z4) (Y:=Int) (λx=>[.val zy x]) (λy=>[.val (zh .u64) y]) (f:=(λx=>zN x c_0)) (λx y hf=>i64.ok _ hf) rfl (.n rfl) rfl rfl .n (.c (.t rfl) .n) ?_;refine run 4 ?_;refine zdh (zbN zg) ?_;refine gal λb1=>?_;refine run 3 ?_;refine zi0 (.n rfl) rfl rfl .n (.c (.t rfl) (.c (.t rfl) .n)) ?_;refine gcl ho λy2 hy2 ho=>?_;intro v3;show zm ..;obtain ⟨ta,ha,ho⟩:=bnd ho;refine glp ha [3,4,5,6,15,16] [] [0,1,2] (λs g=>([(17,vI s.1)],[(v3,.row zy y2),(.ptr b1 0,.box [.raw (gh g 0)]),(gh g 0,.row zg s.2)])) (λb=>(.exit 0,λg=>([],[(.ptr b1 0,.box [.raw (gh g 0)]),(gh g 0,.row zg b)]))) [.nsz] (λsa gb _ ho=>?_) λgc=>?_
 . refine gct ho (λhc ho=>?_) λhc ho=>?_
   . obtain ⟨xa,hr,ho⟩:=bnd ho;refine gal λba=>?_;refine gfz 1 zy xa 0 [8] ?_;obtain ⟨ya,hd,ho⟩:=bnd ho;refine run 6 ?_;refine ziZ (X:=z4) (Y:=Int) (f:=(λx=>zN x c_0)) (x:=xa) hd (.n rfl) rfl rfl rfl (.t rfl) (.c (.t rfl) .n) ?_;show zm ..;obtain ⟨yd,he,ho⟩:=bnd ho;refine run 2 ?_;refine zhq (ps:=[]) (es:=[.val (zh .u64) ya,.val (zb zy) ([xa])]) (cs:=[.val (zL (zL z8)) c_0,.raw (.ptr b1 0)]) [1,2] [0] (λ_ h=>by cases h<;>exact ⟨by kernel_rfl,by kernel_rfl⟩) (zej he b1 (gh gb 0)) rfl rfl Oa rfl (.n rfl) rfl rfl rfl (.t rfl) (.c (.t rfl) (.c (.t rfl) .n)) ?_;intro gd;show zm ..;obtain ⟨tb,hg,ho⟩:=bnd ho;refine glp hg [3,4,5,6,8,15,16,17,28,29] [2] [0,1,2] (λs g=>([(30,vI s.1)],[(.ptr b1 0,.box [.raw (gh g 0)]),(gh g 0,.row zg s.2)])) (λb=>(.exit 2,λg=>([],[(.ptr b1 0,.box [.raw (gh g 0)]),(gh g 0,.row zg b)]))) [gh gd 0] (λsb ga _ ho=>?_) λge=>?_
     . refine gct ho (λhh ho=>?_) λhh ho=>?_
       . obtain ⟨xb,hs,ho⟩:=bnd ho;refine gal λbb=>?_;refine gfz 1 zy xb 0 [10] ?_;obtain ⟨ye,hi,ho⟩:=bnd ho;refine run 5 ?_;refine ziZ (X:=z4) (Y:=Int) (f:=(λx=>zN x c_0)) (x:=xa) hi (.n rfl) rfl rfl rfl (.t rfl) (.c (.t rfl) .n) ?_;show zm ..;obtain ⟨yf,hj,ho⟩:=bnd ho;refine run 2 ?_;refine ziZ (X:=z4) (Y:=Int) (f:=(λx=>zN x c_0)) (x:=xb) hj (.n rfl) rfl rfl rfl (.t rfl) (.c (.t rfl) .n) ?_;show zm ..;refine gct ho (λhk ho=>?_) λhk ho=>?_
         . obtain ⟨yb,hl,ho⟩:=bnd ho;refine run 4 ?_;refine ziZ (X:=z4) (Y:=Int) (f:=(λx=>zN x c_0)) (x:=xa) hl (.n rfl) rfl rfl rfl (.t rfl) (.c (.t rfl) .n) ?_;show zm ..;obtain ⟨yc,hm,ho⟩:=bnd ho;refine run 2 ?_;refine ziZ (X:=z4) (Y:=Int) (f:=(λx=>zN x c_0)) (x:=xb) hm (.n rfl) rfl rfl rfl (.t rfl) (.c (.t rfl) .n) ?_;show zm ..;obtain ⟨yg,hn,ho⟩:=bnd ho;refine run 4 ?_;refine zhq (ps:=[]) (es:=[.val (zh .u64) (bOr .u64 yb yc),.val (zb zy) ([xa,xb])]) (cs:=[.val (zL (zL z8)) c_0,.raw (.ptr b1 0)]) [0,1] [2] (λ_ h=>by cases h<;>exact ⟨by kernel_rfl,by kernel_rfl⟩) (zej hn b1 (gh ga 0)) rfl rfl Oa rfl (.n rfl) rfl rfl rfl (.t rfl) (.c (.t rfl) (.c (.t rfl) .n)) ?_;intro gf;show zm ..;exact lv [gh gf 0] [0,1,2] ho
         . exact lv [gh ga 0] [0,1,2] ho
       . exact lv [gh ga 0] [0,1,2] ho
     . exact lv [gh ge 0] [2,0,1] ho
   . exact lv [gh gb 0] [1,2] ho
 . obtain ⟨yh,hp,ho⟩:=bnd ho;refine run 3 ?_;refine zpF [1] [0] (λ_ h=>by cases h) (zfd hp (gh gc 0)) rfl rfl Oa rfl (.n rfl) rfl rfl rfl .f (.c (.t rfl) (.c (.fv (zge (λx y hf=>i68.ok _ hf) rfl)) .n)) ?_;intro gg;intro va;exact we ho⟩
instance i12 {a d c w_3}:FI ktab 12 (zgE a d c w_3) [.val (zb zcp) a,.val zhV d,.val (zb (zb (zh .i64))) c,.val zbT w_3] (λout=>[.row zcJ out.1,wI out.2]):=⟨λout ho=>by
 delta zgE at ho;refine fn λ_ _=>?_;refine gnr zcJ ?_;refine run 2 ?_;refine zoM (by exact zmC) ?_;refine gcl ho λy1 hy1 ho=>?_;refine gct ho (λhq2 ho=>?_) λhq2 ho=>?_
 . refine gnr zcJ ?_;exact we ho
 . refine gct ho (λhq3 ho=>?_) λhq3 ho=>?_
   . refine gnr zcJ ?_;exact we ho
   . obtain ⟨p4,hp4,ho⟩:=bnd ho;refine run 4 ?_;refine zdh (zcr (n:=47) hp4 rfl) ?_;refine gcl ho λy5 hy5 ho=>?_;intro v6;show zm ..;obtain ⟨x7,hx7,ho⟩:=bnd ho;refine run 12 ?_;refine zoT zaN zmG rfl (.n rfl) rfl rfl ?_;intro b8;refine run 1 ?_;refine zhs 0 zmG (.inr rfl) rfl (.n rfl) rfl (.t rfl) (.i Oa Oa) (.t rfl) rfl ?_;obtain ⟨ta,ha,ho⟩:=bnd ho;refine glp ha [12,13,14,57] [1] [0,1] (λs g=>([(58,.val (zh .u64) s.1)],[(.map b8,.mp (zh .u64) zaN s.2)])) (λb=>(.exit 1,λg=>([],[(.map b8,.mp (zh .u64) zaN b)]))) [] (λsa gd _ ho=>?_) λge=>?_
     . refine gct ho (λhc ho=>?_) λhc ho=>?_
       . obtain ⟨tb,hd,ho⟩:=bnd ho;refine glp hd [12,13,14,15,16,57,58,65,66] [1] [0,1] (λs g=>([(67,vI s.1)],[(.map b8,.mp (zh .u64) zaN s.2)])) (λb=>(.exit 3,λg=>([],[(.map b8,.mp (zh .u64) zaN b)]))) [] (λsb gf _ ho=>?_) λgg=>?_
         . refine gct ho (λhe ho=>?_) λhe ho=>?_
           . obtain ⟨xa,hy,ho⟩:=bnd ho;refine gal λbb=>?_;refine gfz 1 zg xa 0 [18] ?_;refine wbr ho (λhf ho=>?_) λhf ho=>?_
             . refine gk ?_;exact lv [] [0,1] ho
             . refine wbr ho (λhg ho=>?_) λhg ho=>?_
               . refine gk ?_;exact lv [] [0,1] ho
               . refine gct ho (λhh ho=>?_) λhh ho=>?_
                 . exact lv [] [0,1] ho
                 . refine run 8 ?_;refine zjP 0 rfl zmG iz' rfl (.n rfl) rfl rfl (.t rfl) (.t rfl) ?_;refine gal λbc=>?_;refine gfz 1 zaN ((mget sb.2 (zb0 .u64 sa.1 xa.2.1)).getD (0,0,())) 0 [19] ?_;refine gct ho (λhi ho=>?_) λhi ho=>?_
                   . exact lv [] [0,1] ho
                   . refine gal λbd=>?_;refine gfz 1 zaN ((w64 (((mget sb.2 (zb0 .u64 sa.1 xa.2.1)).getD (0,0,())).1+1),w64 (((mget sb.2 (zb0 .u64 sa.1 xa.2.1)).getD (0,0,())).2.1+xa.2.2.1),()):zbY) 0 [21] ?_;refine run 5 ?_;refine zjP 0 rfl zmG iz' rfl (.n rfl) rfl rfl (.t rfl) (.t rfl) ?_;refine gal λbe=>?_;refine gfz 1 zaN ((mget sb.2 sa.1).getD (0,0,())) 0 [22] ?_;refine wbr ho (λhj ho=>?_) λhj ho=>?_
                     . refine gk ?_;refine run 4 ?_;refine zhs 0 zmG (.inl rfl) rfl (.n rfl) rfl (.t rfl) (.t rfl) (.t rfl) rfl ?_;exact lv [] [0,1] ho
                     . refine wbr ho (λhk ho=>?_) λhk ho=>?_
                       . refine gk ?_;refine run 4 ?_;refine zhs 0 zmG (.inl rfl) rfl (.n rfl) rfl (.t rfl) (.t rfl) (.t rfl) rfl ?_;exact lv [] [0,1] ho
                       . refine wbr ho (λhl ho=>?_) λhl ho=>?_
                         . refine gct ho (λhm ho=>?_) λhm ho=>?_
                           . refine run 4 ?_;refine zhs 0 zmG (.inl rfl) rfl (.n rfl) rfl (.t rfl) (.t rfl) (.t rfl) rfl ?_;exact lv [] [0,1] ho
                           . exact lv [] [0,1] ho
                         . refine gk ?_;exact lv [] [0,1] ho
           . exact lv [] [0,1] ho
         . exact lv [] [0,1] ho
       . exact lv [] [0,1] ho
     . refine run 4 ?_;refine zjP 0 rfl zmG iz' rfl (.n rfl) rfl rfl (.t rfl) (.t rfl) ?_;refine gal λba=>?_;refine gct ho (λhn ho=>?_) λhn ho=>?_
       . refine gnr zcJ ?_;exact we ho
       . refine gnr zcJ ?_;obtain ⟨tc,hp,ho⟩:=bnd ho;refine glp hp [] [] [1,2,3,0] (λs g=>([(12,.raw v6),(14,.raw (.map b8)),(24,.raw (.ptr ba 0)),(26,.raw (gh g 0)),(27,.val (zh .u64) s.2.1)],[(.ptr ba 0,.box [vI s.2.2.1,vI s.d3]),(.map b8,.mp (zh .u64) zaN ta),(v6,.row zg y5),(gh g 0,.row zcJ s.1)])) (λb=>(.exit 5,λg=>([(26,.raw (gh g 0))],[(gh g 0,.row zcJ b)]))) [.nsz] (λsd gc _ ho=>?_) λgi=>?_
         . refine gct ho (λhr ho=>?_) λhr ho=>?_
           . obtain ⟨td,hs,ho⟩:=bnd ho;refine gl2 hs ho [12,14,24,152,153] [] [0,1,2,3] (λs g=>([(26,.raw (gh g 0)),(27,.val (zh .u64) s.2.1),(154,vI s.2.2.1)],[(.ptr ba 0,.box [vI s.d3.1,vI s.d4]),(.map b8,.mp (zh .u64) zaN ta),(v6,.row zg y5),(gh g 0,.row zcJ s.1)])) (λb=>(.exit 6,λg=>([(26,.raw (gh g 0)),(27,.val (zh .u64) b.2.1),(173,vB b.2.2.1),(176,.val zaN b.d3.1),(178,vI b.d4.1),(179,vI b.d5.1),(181,vI b.d6.1),(182,.val (zL (zh .i64)) b.d7.1),(183,vI b.d8.1),(184,vI b.d9.1),(185,.val zaN b.d9.2.1),(186,vB b.d9.2.2.1)],[(.ptr ba 0,.box [vI b.d9.d3.1,vI b.d9.d4]),(.map b8,.mp (zh .u64) zaN ta),(v6,.row zg y5),(gh g 0,.row zcJ b.1)]))) (λb=>(.exit 7,λg=>([(26,.raw (gh g 0))],[(gh g 0,.row zcJ b.1)]))) [gh gc 0] (λsc ga _ ho=>?_) (λbf ho gb=>?_) λbg ho gb=>?_
             . refine gct ho (λht ho=>?_) λht ho=>?_
               . obtain ⟨xb,hz,ho⟩:=bnd ho;refine gal λbh=>?_;refine gfz 1 zg xb 0 [29] ?_;refine run 8 ?_;refine zjP 1 rfl zmG iz' rfl (.n rfl) rfl rfl (.t rfl) (.t rfl) ?_;refine gal λbi=>?_;refine gfz 1 zaN ((mget ta (zb0 .u64 sc.2.1 xb.2.1)).getD (0,0,())) 0 [30] ?_;refine wbr ho (λhu ho=>?_) λhu ho=>?_
                 . refine wbr ho (λhv ho=>?_) λhv ho=>?_
                   . refine gct ho (λhw ho=>?_) λhw ho=>?_
                     . obtain ⟨xd,hA,ho⟩:=bnd ho;refine gap λva=>?_;exact lv [va] [1,2,3,0] ho
                     . exact lv [gh ga 0] [0,1,2,3] ho
                   . refine gk ?_;exact lv [gh ga 0] [0,1,2,3] ho
                 . refine gk ?_;exact lv [gh ga 0] [0,1,2,3] ho
               . exact lv [gh ga 0] [3] ho
             . cases ho; exact id (lf [gh gb 0] [0,1,2,3])
             . exact lv [gh gb 0] [0] ho
           . exact lv [gh gc 0] [3] ho
         . exact we ho⟩
instance i13 {a d c w_3}:FI ktab 13 (zhW a d c w_3) [.val (zb zcp) a,.val zhV d,.val (zb (zb (zh .i64))) c,.val zbT w_3] (λout=>[.row (zh .i64) out.1,wI out.2]):=⟨λout ho=>by
 delta zhW at ho;refine fn λ_ _=>?_;refine gnr (zh .i64) ?_;refine gcl ho λy1 hy1 ho=>?_;refine gct ho (λhq2 ho=>?_) λhq2 ho=>?_
 . refine gnr (zh .i64) ?_;exact we ho
 . obtain ⟨x3,hx3,ho⟩:=bnd ho;refine gmk λv4=>?_;obtain ⟨p5,hp5,ho⟩:=bnd ho;refine run 6 ?_;refine zdh (zcr (n:=33) hp5 rfl) ?_;refine gcl ho λy6 hy6 ho=>?_;intro v7;show zm ..;obtain ⟨ta,ha,ho⟩:=bnd ho;refine glp ha [2,10,12,34,35] [] [0,1] (λs g=>([(36,vI s.1)],[(v7,.row zy y6),(v4,.row zw s.2)])) (λb=>(.exit 0,λg=>([],[(v4,.row zw b)]))) [] (λsa gb _ ho=>?_) λgc=>?_
   . refine gct ho (λhc ho=>?_) λhc ho=>?_
     . obtain ⟨xa,hk,ho⟩:=bnd ho;refine gal λba=>?_;refine gfz 1 zy xa 0 [14] ?_;obtain ⟨pa,hd,ho⟩:=bnd ho;refine run 7 ?_;refine zdh (zcr (n:=40) hd rfl) ?_;refine gcl ho λya hl ho=>?_;intro vb;show zm ..;refine gct ho (λhe ho=>?_) λhe ho=>?_
       . obtain ⟨xb,hm,xd,hn,tb,hf,ho⟩:=zok ho;refine glp hf [2,10,12,34,35,36,57,58] [1] [2,1] (λs g=>([(59,vI s.1)],[(v4,.row zw s.2)])) (λb=>(.exit 2,λg=>([],[(v4,.row zw b)]))) [] (λsb gd _ ho=>?_) λge=>?_
         . refine gct ho (λhg ho=>?_) λhg ho=>?_
           . obtain ⟨xe,hp,xf,hr,ho⟩:=zff ho;exact lv [] [0,1] ho
           . exact lv [] [0,1] ho
         . exact lv [] [1,0] ho
       . exact lv [] [1,2] ho
     . exact lv [] [1] ho
   . refine gnr (zh .i64) ?_;obtain ⟨tc,hh,ho⟩:=bnd ho;refine glp hh [68,69] [] [1,0] (λs g=>([(17,.raw (gh g 0)),(70,vI s.2)],[(v4,.row zw ta),(gh g 0,.row (zh .i64) s.1)])) (λb=>(.exit 4,λg=>([(17,.raw (gh g 0))],[(gh g 0,.row (zh .i64) b)]))) [.nsz] (λsc ga _ ho=>?_) λgf=>?_
     . refine gct ho (λhi ho=>?_) λhi ho=>?_
       . obtain ⟨xg,hs,ho⟩:=bnd ho;refine gct ho (λhj ho=>?_) λhj ho=>?_
         . obtain ⟨xh,ht,ho⟩:=bnd ho;refine gap λva=>?_;exact lv [va] [1,0] ho
         . exact lv [gh ga 0] [0,1] ho
       . exact lv [gh ga 0] [1] ho
     . exact we ho⟩
instance i15 {a b_1}:FI ktab 15 (zee a b_1) [.val (zb (zh .i64)) a,.val (zb (zh .i64)) b_1] (λout=>[wB out]):=⟨λout ho=>by
 delta zee at ho;refine fn λ_ _=>?_;refine gct ho (λhq1 ho=>?_) λhq1 ho=>?_
 . exact we ho
 . obtain ⟨ta,ha,ho⟩:=bnd ho;refine gl2 ha ho [0,1] [] [] (λs g=>([(5,vI s)],[])) (λb=>(.exit 0,λg=>([],[]))) (λb=>(.ret,λg=>([(4,vB b)],[]))) [] (λs8 g9 _ ho=>?_) (λba ho ga=>?_) λbb ho ga=>?_
   . exact we ho
   . exact we ho
   . exact rv ho⟩
instance i14 {a b_1}:FI ktab 14 (zgF a b_1) [.val (zb (zb (zh .i64))) a,.val (zb (zb (zh .i64))) b_1] (λout=>[wB out]):=⟨λout ho=>by
 delta zgF at ho;refine fn λ_ _=>?_;refine gct ho (λhq1 ho=>?_) λhq1 ho=>?_
 . exact we ho
 . obtain ⟨ta,ha,ho⟩:=bnd ho;refine gl2 ha ho [0,1] [] [] (λs g=>([(5,vI s)],[])) (λb=>(.exit 0,λg=>([],[]))) (λb=>(.ret,λg=>([(4,vB b)],[]))) [] (λsa gb _ ho=>?_) (λba ho ga=>?_) λbb ho ga=>?_
   . exact we ho
   . exact we ho
   . exact rv ho⟩
instance i39 {a b_1}:FI ktab 39 (zf3 a b_1) [.val zcJ a,.val zcJ b_1] (λout=>[wB out]):=⟨λout ho=>by
 delta zf3 at ho;refine fn λ_ _=>?_;refine gct ho (λhq1 ho=>?_) λhq1 ho=>?_
 . exact we ho
 . obtain ⟨ta,ha,ho⟩:=bnd ho;refine gl2 ha ho [2,3] [] [] (λs g=>([(5,vI s)],[])) (λb=>(.exit 0,λg=>([],[]))) (λb=>(.ret,λg=>([(4,vB b)],[]))) [] (λs8 g9 _ ho=>?_) (λba ho ga=>?_) λbb ho ga=>?_
   . exact we ho
   . exact we ho
   . exact rv ho⟩
instance i16 {a b_1}:FI ktab 16 (zgG a b_1) [.val (zb zcJ) a,.val (zb zcJ) b_1] (λout=>[wB out]):=⟨λout ho=>by
 delta zgG at ho;refine fn λ_ _=>?_;refine gct ho (λhq1 ho=>?_) λhq1 ho=>?_
 . exact we ho
 . obtain ⟨ta,ha,ho⟩:=bnd ho;refine gl2 ha ho [0,1] [] [] (λs g=>([(5,vI s)],[])) (λb=>(.exit 0,λg=>([],[]))) (λb=>(.ret,λg=>([(4,vB b)],[]))) [] (λsa gb _ ho=>?_) (λba ho ga=>?_) λbb ho ga=>?_
   . exact we ho
   . exact we ho
   . exact rv ho⟩
instance i5:FI ktab 5 zcy [] (λout=>[wB out]):=⟨λout ho=>by
 delta zcy at ho;refine fn λ_ _=>?_;refine gcl ho λy1 hy1 ho=>?_;refine gal λb2=>?_;refine gal λb3=>?_;refine gfz 2 zhV y1.2.1 1 [2] ?_;refine gcl ho λy4 hy4 ho=>?_;intro v5;show zm ..;refine gal λb6=>?_;refine gfz 2 zeK y4.2.1 0 [5] ?_;refine glb y1.2.2 1 ?_;refine gcl ho λy7 hy7 ho=>?_;intro v8;show zm ..;refine glb ((129,y1.d3.1,y1.d4.1,y1.d5.1,y1.d6.1,y1.d7.1,()):zeY) 2 ?_;refine gcl ho λy9 hy9 ho=>?_;intro va;show zm ..;obtain ⟨ca,ha,ho⟩:=bnd ho;refine run 8 ?_;refine gcx ca [4,5,7,9] [0,1,2,3] (λt=>(.normal,λ_=>([(53,vB t)],[]))) ?_ λ_=>?_
 . have ho:=ha;refine wbr ho (λhc ho=>?_) λhc ho=>?_
   . exact lv [] [0,1,2,3] ho
   . refine wbr ho (λhd ho=>?_) λhd ho=>?_
     . exact lv [] [0,1,2,3] ho
     . exact lv [] [0,1,2,3] ho
 . refine gct ho (λhe ho=>?_) λhe ho=>?_
   . exact we ho
   . obtain ⟨cc,hf,ho⟩:=bnd ho;refine run 2 ?_;refine gcx cc [] [0,1,2,3] (λt=>(.normal,λ_=>([(0,vB t)],[]))) ?_ λ_=>?_
     . have ho:=hf;refine gcl ho λya hk ho=>?_;refine wbr ho (λhg ho=>?_) λhg ho=>?_
       . refine gcl ho λyb hl ho=>?_;refine wbr ho (λhh ho=>?_) λhh ho=>?_
         . refine gcl ho λyc hm ho=>?_;refine wbr ho (λhi ho=>?_) λhi ho=>?_
           . refine gcl ho λyd hn ho=>?_;refine wbr ho (λhj ho=>?_) λhj ho=>?_
             . refine gcl ho λye hp ho=>?_;exact lv [] [0,1,2,3] ho
             . exact lv [] [0,1,2,3] ho
           . exact lv [] [0,1,2,3] ho
         . exact lv [] [0,1,2,3] ho
       . exact lv [] [0,1,2,3] ho
     . exact rv ho⟩
end Go.Ai.TabYtnngmijajnldlaaGreat
namespace Go.Ai.TabYtnngmijajnldlaaGreat
open Go Go.Ai Go.Ai.Sx Go.Proofs
attribute [local irreducible] zm
set_option maxRecDepth 100000
set_option maxHeartbeats 4000000
instance i4 {a s_1}:FI ktab 4 (zeu a s_1) [.val zdS a,.val zd0 s_1] (λout=>[wB out]):=⟨λout ho=>by
 delta zeu at ho;refine fn λ_ _=>?_;obtain ⟨c5,hc5,ho⟩:=bnd ho;refine run 7 ?_;refine gcx c5 [] [] (λt=>(.normal,λ_=>([(4,vB t)],[]))) ?_ λ_=>?_
 . exact we hc5
 . exact rv ho⟩
instance i3 {j e d a turn_4}:FI ktab 3 (zcB j e d a turn_4) [.val zdS j,.val zd0 e,vI d,vI a,vI turn_4] (λout=>[wB out]):=⟨λout ho=>by
 delta zcB at ho;refine fn λ_ _=>?_;obtain ⟨c4,hc4,ho⟩:=bnd ho;refine run 8 ?_;refine gcx c4 [2,3,4,5,6] [] (λt=>(.normal,λ_=>([(47,vB t)],[]))) ?_ λ_=>?_
 . exact we hc4
 . refine gct ho (λhq8 ho=>?_) λhq8 ho=>?_
   . exact we ho
   . obtain ⟨ya,he,ho⟩:=bnd ho;refine run 7 ?_;refine zfF (i6.ok _ he) (.r (zcf zc9 (zcf zeX (zcf zc9 (zcf zc9 zg7)))) (.v zc9 .n)) rfl (.n rfl) rfl rfl rfl .f (.c (.o (.t rfl)) (.c (.o (.t rfl)) (.c (.o .nil) (.c (.o (.t rfl)) (.c (.o (.t rfl)) .n))))) ?_;intro va;show zm ..;obtain ⟨ca,hf,ho⟩:=bnd ho;refine run 8 ?_;refine gcx ca [4,5,6,11] [0] (λt=>(.normal,λ_=>([(63,vB t)],[]))) ?_ λ_=>?_
     . have ho:=hf;refine wbr ho (λhg ho=>?_) λhg ho=>?_
       . exact lv [] [0] ho
       . exact lv [] [0] ho
     . refine gct ho (λhh ho=>?_) λhh ho=>?_
       . exact we ho
       . obtain ⟨tb,hi,ho⟩:=bnd ho;refine gl2 hi ho [5,6,11] [] [0] (λs g=>([(13,vI s.1),(14,vI s.2.1),(15,vI s.2.2)],[(va,.row z9 ya.1)])) (λb=>(.exit 0,λg=>([(13,vI b.1),(14,vI b.2)],[(va,.row z9 ya.1)]))) (λb=>(.ret,λg=>([(10,vB b)],[]))) [] (λsc gg _ ho=>?_) (λba ho gd=>?_) λbc ho gd=>?_
         . refine gct ho (λhj ho=>?_) λhj ho=>?_
           . obtain ⟨xd,hM,xe,hN,ho⟩:=zff ho;refine gcl ho λyd hO ho=>?_;refine gct ho (λhk ho=>?_) λhk ho=>?_
             . exact we ho
             . obtain ⟨xf,hP,ho⟩:=bnd ho;exact lv [] [0] ho
           . exact lv [] [0] ho
         . refine gcl ho λyb hQ ho=>?_;intro vb;show zm ..;refine gct ho (λhl ho=>?_) λhl ho=>?_
           . obtain ⟨cc,hm,ho⟩:=bnd ho;refine run 1 ?_;refine gcx cc [] [0,1] (λt=>(.normal,λ_=>([(10,vB t)],[]))) ?_ λ_=>?_
             . have ho:=hm;refine wbr ho (λhn ho=>?_) λhn ho=>?_
               . refine gcl ho λye hR ho=>?_;exact lv [] [0,1] ho
               . exact lv [] [0,1] ho
             . exact rv ho
           . obtain ⟨xb,hp,ho⟩:=bnd ho;refine run 12 ?_;refine zBY (R:=zh .i64) zBD zCw (ztK Z) hp (.n rfl) rfl rfl (.t rfl) (.t rfl) ?_;intro vc;obtain ⟨xa,hS,ho⟩:=bnd ho;refine gmk λve=>?_;refine zdh (zpE (n:=120) 1 rfl rfl) ?_;refine zdh (zgd 0 [123] rfl rfl ⟨rfl,trivial⟩) ?_;refine zkr (R:=zsr) zBG (.n rfl) rfl rfl rfl (.p (.t rfl) rfl (.p (.t rfl) rfl (.p (.t rfl) rfl (.n rfl)))) ?_;refine gal λbb=>?_;refine znE 0 zBC rfl (zt (zz rfl) (zt (zz rfl) (zt (zz rfl) zb7 rfl) rfl) rfl) Om (.n rfl) rfl rfl (.t rfl) (.t rfl) Om ?_;refine zdh (zlQ (q:=0) 0 rfl rfl rfl) ?_;obtain ⟨ta,hr,ho⟩:=bnd ho;refine glp hr [11,13,18,20,21] [3,4] [0,1,2,3,4] (λs g=>([(22,vI s.1)],[(.ptr bb 0,.box [.raw (gh g 0),vI ba.2,.val (zb zw) xa]),(gh g 0,.row zhH (untup (gh g 1))),(.undef,pack (zh .i64) (untup (gh g 1)) s.2)])) (λb=>(.exit 2,λg=>([],[(.ptr bb 0,.box [.raw (gh g 0),vI ba.2,.val (zb zw) xa]),(gh g 0,.row zhH (untup (gh g 1))),(.undef,pack (zh .i64) (untup (gh g 1)) b)]))) [vc,.tuple (nils xb)] (λsa gb _ ho=>?_) λgi=>?_
             . refine gct ho (λht ho=>?_) λht ho=>?_
               . refine run 4 ?_;refine zaK [1] Z ?_;obtain ⟨xg,hT,ho⟩:=bnd ho;refine gmk λvd=>?_;obtain ⟨xh,ha,ho⟩:=bnd ho;refine zv1 (R:=zh .i64) 2 3 zBD ha (.n rfl) rfl rfl (.t rfl) rfl rfl (.t rfl) ?_;intro w127 hw127;refine zdh (zoO (i:=Int.toNat sa.1) 3 rfl rfl hw127 (zdi ha).2.2.2) ?_;refine zdh (zpE (n:=134) 2 rfl rfl) ?_;refine zpy 4 zCh FOk.self hw127 (.n rfl) rfl rfl (.t rfl) (.t rfl) rfl rfl ?_;refine zdh (zv0 (i:=Int.toNat sa.1) (hs:=untup (gh gb 1)) (xss:=sa.2) 2 1 rfl rfl rfl rfl hw127 (zdi ha).2.2.2) ?_;obtain ⟨tc,hu,ho⟩:=bnd ho;refine glp hu [11,13,18,20,21,22] [4,5] [0,2,3,4,5] (λs g=>([(23,vI s.1)],[(.undef,pack (zh .i64) (untup (gh g 1)) s.2),(.ptr bb 0,.box [.raw (gh g 0),vI ba.2,.val (zb zw) xa]),(gh g 0,.row zhH (untup (gh g 1)))])) (λb=>(.exit 4,λg=>([],[(.undef,pack (zh .i64) (untup (gh g 1)) b),(.ptr bb 0,.box [.raw (gh g 0),vI ba.2,.val (zb zw) xa]),(gh g 0,.row zhH (untup (gh g 1)))]))) [gh gb 0,.tuple ((untup (gh gb 1)).set (Int.toNat sa.1) vd)] (λsb ga _ ho=>?_) λgc=>?_
                 . refine gct ho (λhv ho=>?_) λhv ho=>?_
                   . refine gct ho (λhw ho=>?_) λhw ho=>?_
                     . obtain ⟨xi,hc,ho⟩:=bnd ho;refine run 4 ?_;refine zv1 (R:=zh .i64) 2 0 zBD hc (.n rfl) rfl rfl (.t rfl) rfl rfl (.t rfl) ?_;intro w143 hw143;refine ziX 2 (λ_ h=>by cases h<;>rfl) zCh FOk.self hw143 (.n rfl) rfl rfl (.t rfl) rfl ?_;refine zdh (zuC (n:=148) rfl) ?_;refine run 1 ?_;refine zdh (zoO (i:=Int.toNat sa.1) 0 rfl rfl hw143 (zdi hc).2.2.2) ?_;obtain ⟨xj,hU,ho⟩:=bnd ho;refine run 2 ?_;refine zdh (zyN (i:=Int.toNat sa.1) (hs:=untup (gh ga 1)) (xss:=sb.2) 0 0 rfl rfl rfl rfl hw143 (zdi hc).2.2.2) ?_;exact lv [gh ga 0,.tuple (untup (gh ga 1))] [0,1,2,3,4] ho
                     . exact lv [gh ga 0,.tuple (untup (gh ga 1))] [0,1,2,3,4] ho
                   . exact lv [gh ga 0,.tuple (untup (gh ga 1))] [0,1,2,3,4] ho
                 . exact lv [gh gc 0,.tuple (untup (gh gc 1))] [1,2,0,3,4] ho
               . exact lv [gh gb 0,.tuple (untup (gh gb 1))] [0,1,2,3,4] ho
             . refine run 6 ?_;refine zm2 (zrg 1 2 rfl rfl rfl rfl) ?_;refine zm2 (zcS 0 0 (q:=0) [] rfl rfl rfl rfl Om trivial) ?_;obtain ⟨td,hy,ho⟩:=bnd ho;refine gl2 hy ho [13] [] [0,1,2] (λs g=>([(11,.raw va),(18,.raw vb),(21,.raw (.ptr bb 0)),(24,vI s)],[(.ptr bb 0,.box [.val (zb (zb (zh .i64))) ta,vI ba.2,.val (zb zw) xa]),(vb,.row zcp yb.1),(va,.row z9 ya.1)])) (λb=>(.exit 6,λg=>([(18,.raw vb),(21,.raw (.ptr bb 0))],[(.ptr bb 0,.box [.val (zb (zb (zh .i64))) ta,vI ba.2,.val (zb zw) xa]),(vb,.row zcp yb.1)]))) (λb=>(.ret,λg=>([(10,vB b)],[]))) [] (λsd gj _ ho=>?_) (λbd ho ge=>?_) λbe ho ge=>?_
               . refine gct ho (λhz ho=>?_) λhz ho=>?_
                 . obtain ⟨te,hA,ho⟩:=bnd ho;refine gl2 hA ho [11,13,18,21,24] [] [0,1,2] (λs g=>([(25,vI s)],[(.ptr bb 0,.box [.val (zb (zb (zh .i64))) ta,vI ba.2,.val (zb zw) xa]),(vb,.row zcp yb.1),(va,.row z9 ya.1)])) (λb=>(.exit 8,λg=>([],[(.ptr bb 0,.box [.val (zb (zb (zh .i64))) ta,vI ba.2,.val (zb zw) xa]),(vb,.row zcp yb.1),(va,.row z9 ya.1)]))) (λb=>(.ret,λg=>([(10,vB b)],[]))) [] (λse gl _ ho=>?_) (λbf ho gf=>?_) λbg ho gf=>?_
                   . refine gct ho (λhB ho=>?_) λhB ho=>?_
                     . refine run 4 ?_;refine zaK [4,9,16,21] Z ?_;obtain ⟨xk,hC,ho⟩:=bnd ho;refine run 4 ?_;refine ziX 2 (λ_ h=>by cases h<;>rfl) iu' znQ (zdi hC).2.2.2 (.n rfl) rfl rfl (.t rfl) rfl ?_;obtain ⟨xl,hD,ho⟩:=bnd ho;refine run 4 ?_;refine ziX 2 (λ_ h=>by cases h<;>rfl) iu' znQ (zdi hD).2.2.2 (.n rfl) rfl rfl (.t rfl) rfl ?_;refine wbr ho (λhd ho=>?_) λhd ho=>?_
                       . obtain ⟨xm,hE,ho⟩:=bnd ho;refine run 6 ?_;refine ziX 2 (λ_ h=>by cases h<;>rfl) iu' znR (zdi hE).2.2.2 (.g rfl rfl (gt1 hd)) rfl rfl (.t rfl) rfl ?_;obtain ⟨xn,hF,ho⟩:=bnd ho;refine run 4 ?_;refine ziX 2 (λ_ h=>by cases h<;>rfl) iu' znR (zdi hF).2.2.2 (.g rfl rfl (gt1 hd)) rfl rfl (.t rfl) rfl ?_;refine gct ho (λhG ho=>?_) λhG ho=>?_
                         . refine glb (ta,ba.2,xa,()) 0 ?_;refine gcl ho λyf hV ho=>?_;refine wbr ho (λhH ho=>?_) λhH ho=>?_
                           . refine gk ?_;exact we ho
                           . refine gct ho (λhI ho=>?_) λhI ho=>?_
                             . exact we ho
                             . exact lv [] [0,1,2] ho
                         . exact lv [] [0,1,2] ho
                       . refine gk ?_;exact lv [] [0,1,2] ho
                     . exact lv [] [0,1,2] ho
                   . exact lv [] [0,1,2] ho
                   . cases ho; exact id (lf [] [])
                 . exact lv [] [0,1] ho
               . refine glb (ta,ba.2,xa,()) 0 ?_;refine zdh (zgd 1 [18,202] rfl rfl ⟨rfl,rfl,trivial⟩) ?_;refine gcl ho λyc hW ho=>?_;intro vf;show zm ..;refine gal λbh=>?_;refine gfz 2 zeK yc.2.1 0 [29] ?_;obtain ⟨cd,hJ,ho⟩:=bnd ho;refine run 3 ?_;refine gcx cd [] [0,1] (λt=>(.normal,λ_=>([(10,vB t)],[]))) ?_ λ_=>?_
                 . have ho:=hJ;refine wbr ho (λhK ho=>?_) λhK ho=>?_
                   . refine wbr ho (λhL ho=>?_) λhL ho=>?_
                     . refine gcl ho λyg hX ho=>?_;exact lv [] [0,1] ho
                     . exact lv [] [0,1] ho
                   . exact lv [] [0,1] ho
                 . exact rv ho
               . exact rv ho
         . exact rv ho⟩
end Go.Ai.TabYtnngmijajnldlaaGreat
namespace Go.Proofs.YtnngmijajnldlaaGreat
open Go Go.Ai Go.Ai.Sx Go.Ai.TabYtnngmijajnldlaaGreat
def zh6:ztQ (Plan×Service×Int×Int×Int×Unit):=zoU zdS (zoU zd0 (zoU (zh .i64) (zoU (zh .i64) (zoU (zh .i64) zBt))))
theorem zoj:znL Tryz.prog [25,29,3,3,3] zh6:=zfH o25 Z (zfH o29 Z (zfH o3 Z (zfH o3 Z (zfH o3 Z zqO))))
theorem zyO {A:Type} {R:Rep A} {z:Store} {v:zd} {xs:List A} (r:zg0 R z v xs) {i:Nat} {x:A} (h:xs[i]?=Ob x):∃ cs,R.rel z cs x:=by
 obtain ⟨_,⟨_,rfl⟩ | ⟨_,_,_,_,rfl,_⟩ | ⟨_,_,_,_,_,_,_,_,_,q⟩⟩:=r
 . simp at h
 . simp at h
 . exact ⟨_,q i x h⟩
theorem zhz {z:Store} {cs:List zd} {c:Course} (h:zd6.rel z cs c):c.1.length<=9223372036854775807/\c.2.1.length<=9223372036854775807:=by
 obtain ⟨_,_,_,⟨_,_,h1⟩,⟨_,_,_,⟨_,_,h2⟩,_⟩⟩:=h;exact ⟨h1.1,h2.1⟩
theorem zvR {z:Store} {cs:List zd} {l:Line} (h:zfN.rel z cs l):LnB l:=by
 obtain ⟨_,_,_,h1,⟨_,_,_,h2,_⟩⟩:=h;exact ⟨(zhz h1).1,(zhz h1).2,(zhz h2).1,(zhz h2).2⟩
theorem zyP {z:Store} {vs:List zd} {x:Plan×Service×Int×Int×Int×Unit} (h:zh6.rel z vs x):∀ i,i<x.2.1.1.length->LnB (ln0 x.2.1 i):=by
 obtain ⟨_,_,_,_,_,_,_,h2,_⟩:=h;obtain ⟨_,_,_,⟨_,_,h3⟩,_⟩:=h2.rel;intro i hi;obtain ⟨cs,h4⟩:=zyO h3 (List.getElem?_eq_getElem hi);have h5:=zvR h4;have e:ln0 x.2.1 i=x.2.1.1[i]:=by unfold ln0; simp [hi]
 rw [e]; exact h5
set_option maxRecDepth 100000 in
theorem zBZ:(Rows.dutyRoundsRow.inPlace==Tryz.prog.inPlace 3)=Od:=Z
set_option maxRecDepth 100000 in
theorem zB0:(Rows.dutyRoundsRow.unfollowed==Tryz.prog.unfollowed 3)=Od:=Z
set_option maxRecDepth 100000 in
theorem zB1:(Rows.dutyRoundsRow.recurses==Tryz.prog.recurses 3)=Od:=Z
set_option maxRecDepth 100000 in
theorem zB2:(Rows.dutyRoundsRow.named==Tryz.prog.varsNamed 3)=Od:=Z
set_option maxRecDepth 100000 in
theorem zB3:(Rows.dutyRoundsRow.loops==(Tryz.f3.params.toList++Rows.dutyRoundsSpec.plain.varTypes Tryz.prog).any (Tryz.prog.loopsFrom ·))=Od:=Z
set_option maxRecDepth 100000 in
theorem zB4:Rows.dutyRoundsRow.wf (OpenSpec.ofChange Rows.dutyRoundsSpec)=Od:=Z
set_option maxRecDepth 100000 in
theorem zB5:Tryz.f3.params.all (Tryz.prog.readableRec ·)=Od:=Z
set_option maxRecDepth 100000 in
theorem zB6:(Rows.dutyRoundsRow.maps==(Tryz.f3.params.toList++Rows.dutyRoundsSpec.plain.varTypes Tryz.prog).any (Tryz.prog.mapsRec ·))=Od:=Z
set_option maxRecDepth 100000 in
theorem zB7:(Rows.dutyRoundsRow.ifaces==(Tryz.f3.params.toList++Rows.dutyRoundsSpec.plain.varTypes Tryz.prog).any (Tryz.prog.ifacesRec ·))=Od:=Z
set_option maxRecDepth 100000 in
theorem zyQ:joinedFacts Tryz.prog 3 Tryz.f3 Rows.dutyRoundsSpec Rows.dutyRoundsRow=Od:=by
 unfold joinedFacts;exact (zhX (zhX (zhX (zhX (zhX (zhX (zhX (zhX (zhX (zhX (zhX (zhX (zhX (zhX (zhX (zhX (zhX (zhX (zhX (zhX (zhX (zhX (zhX (zhX (zhX (zhX (zhX (zhX (zhX (zhX (zhX zB4 zsw) zzL) zB5) Z) rfl) zxL) rfl) zxM) zBZ) zB0) zB1) zB2) zB6) zB7) Z) zB3) Z) Z) Z) Z) Z) zxN) rfl) zxO) zxP) zzM) zzN) Z) Z) Z) Z)
set_option maxRecDepth 100000 in
theorem rounds_holds:Rows.DutyRoundsSaid:=
 OpenClaim.holds_of_wide 3 Tryz.f3 rfl rfl rfl rfl rfl rfl rfl ⟨rfl,rfl,rfl,rfl,rfl⟩ rfl rfl rfl rfl rfl Z Tryz.func3 zyQ
  (of_decide_eq_true Z) (by unfold Func.isWrapper; first | (rw [if_pos (by decide +kernel)]; kernel_rfl) | (rw [if_neg (by decide +kernel)]; exact ⟨rfl,rfl⟩))
  (λos started H enc _=>by
   show ReturnsInHanded {} Tryz.checked os 3 .any (Rows.dutyRoundsSpec.pre6 enc Tryz.prog Tryz.f3 Rows.dutyRoundsRow.domain Oc) (Rows.dutyRoundsSpec.post enc Tryz.prog Tryz.f3 Oc Od Oc Oc);refine returnsInHanded_of_change_shaped (C:=Tryz.checked) own started Z Tryz.func3
    (ChangeSpec.witness6 (enc:=enc) (C:=Tryz.checked) Oc ⟨#[],#[.agg #[.slice Oe 0 0,.slice Oe 0 0],.agg #[.slice Oe 0 0,.slice Oe 0 0,.slice Oe 0 0],.int .i64 0,.int .i64 0,.int .i64 0],[]⟩ 3 Z Z Z Z) ?_
   intro W base args ds gs before hval hW _ _ hsh _;exact znM (C:=Tryz.checked) zxa zsw rfl (tb:=4) Z Tryz.underlying4 (by rw [Tryz.params3]; decide +kernel) (λH ds hd=>by
    match ds,hd with
    | [_,_,_,_,_],_=>rfl) (by rw [Tryz.params3]; exact zoj)
    (zw8 (S:=zh6) (ziw (ziw (ziw (ziw (ziw zw7))))) (λz vs x hx=>i3.ok _ (zrf x.1 x.2.1 x.2.2.1 x.d3.1 x.d4.1 (zyP hx)))) (zuP hsh) hval hW)
end Go.Proofs.YtnngmijajnldlaaGreat