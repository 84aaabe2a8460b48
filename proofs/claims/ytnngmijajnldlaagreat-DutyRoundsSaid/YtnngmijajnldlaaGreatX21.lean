/- Written by program: walks through functions. -/
import Derived.Test.YtnngmijajnldlaaGreatX11
set_option linter.unusedSimpArgs false
set_option linter.unusedVariables false
set_option linter.unusedSectionVars false
open Option renaming some→Ob
namespace Go.Ai.TabYtnngmijajnldlaaGreat
open Go Go.Ai Go.Ai.Sx Go.Proofs
attribute [local irreducible] zm
set_option maxRecDepth 100000
set_option maxHeartbeats 4000000
instance i29 {b a high_2}:FI ktab 29 (zaa b a high_2) [vI b,vI a,vI high_2] (λout=>[wB out]):=⟨λout ho=>by
 delta zaa at ho;refine fn λ_ _=>?_;obtain ⟨c4,hc4,ho⟩:=bnd ho;refine run 5 ?_;refine gcx c4 [] [] (λt=>(.normal,λ_=>([(6,vB t)],[]))) ?_ λ_=>?_
 . exact we hc4
 . exact rv ho⟩
instance i91 {a f_1}:FI ktab 91 (za6 a f_1) [.val (zb (zh .i64)) a,.val (rFn ktab Int Bool (λx=>[.val (zh .i64) x]) (λy=>[.val zw y])) f_1] (λout=>[wI out]):=⟨λout ho=>by
 delta za6 at ho;refine fn λ_ _=>?_;obtain ⟨ta,ha,ho⟩:=bnd ho;refine gl2 ha ho [0,1,7] [] [] (λs g=>([(8,vI s)],[])) (λb=>(.exit 0,λg=>([],[]))) (λb=>(.ret,λg=>([(4,vI b)],[]))) [] (λs5 g6 _ ho=>?_) (λba ho ga=>?_) λbb ho ga=>?_
 . refine gct ho (λhq7 ho=>?_) λhq7 ho=>?_
   . obtain ⟨x8,hx8,y9,hy9,ho⟩:=zff ho;refine gcv hy9 ?_;exact we ho
   . exact lv [] [] ho
 . exact we ho
 . exact rv ho⟩
instance i57 {a f_1}:FI ktab 57 (zJ a f_1) [.val (zb (zh .i64)) a,.val (rFn ktab Int Bool (λx=>[.val (zh .i64) x]) (λy=>[.val zw y])) f_1] (λout=>[wB out]):=fw
instance i58 {d_0}:FI ktab 58 (zeQ d_0) [vI d_0] (λout=>[wB out]):=fw
instance i31 {a y_1}:FI ktab 31 (zc3 a y_1) [.val (zb zcp) a,.val zhV y_1] (λout=>[wI out]):=⟨λout ho=>by
 delta zc3 at ho;refine fn λ_ _=>?_;obtain ⟨c6,hc6,ho⟩:=bnd ho;refine run 14 ?_;refine gcx c6 [0,3,5] [] (λt=>(.normal,λ_=>([(33,vB t)],[]))) ?_ λ_=>?_
 . exact we hc6
 . refine gct ho (λhc ho=>?_) λhc ho=>?_
   . exact we ho
   . obtain ⟨ta,hd,ho⟩:=bnd ho;refine gl2 hd ho [0,5,35,36] [] [] (λs g=>([(37,vI s)],[])) (λb=>(.exit 0,λg=>([],[]))) (λb=>(.ret,λg=>([(4,vI b)],[]))) [] (λsa gc _ ho=>?_) (λba ho ga=>?_) λbb ho ga=>?_
     . refine gct ho (λhe ho=>?_) λhe ho=>?_
       . obtain ⟨xb,hr,ho⟩:=bnd ho;refine wbr ho (λhg ho=>?_) λhg ho=>?_
         . refine gk ?_;exact we ho
         . obtain ⟨xd,hs,ho⟩:=bnd ho;refine wbr ho (λha ho=>?_) λha ho=>?_
           . refine gk ?_;exact we ho
           . obtain ⟨ya,hh,ho⟩:=bnd ho;refine run 26 ?_;refine zfF (i57.ok _ hh) (.v zeX .n) rfl (.g rfl rfl (gf0 ha)) rfl rfl rfl .f (.c (.o (.t rfl)) (.c (.o (.fv (zge (λx y hf=>i58.ok _ hf) rfl))) .n)) ?_;exact we ho
       . exact lv [] [] ho
     . obtain ⟨tb,hi,ho⟩:=bnd ho;refine gl2 hi ho [0,5,58,59] [] [] (λs g=>([(60,vI s)],[])) (λb=>(.exit 2,λg=>([],[]))) (λb=>(.ret,λg=>([(4,vI b)],[]))) [] (λsb gd _ ho=>?_) (λbc ho gb=>?_) λbd ho gb=>?_
       . refine gct ho (λhj ho=>?_) λhj ho=>?_
         . obtain ⟨xa,ht,ho⟩:=bnd ho;refine gal λbe=>?_;refine gfz 2 zcp xa 0 [9] ?_;refine gcl ho λyb hu ho=>?_;refine wbr ho (λhk ho=>?_) λhk ho=>?_
           . refine gk ?_;exact we ho
           . refine gcl ho λyc hv ho=>?_;refine wbr ho (λhl ho=>?_) λhl ho=>?_
             . refine gk ?_;exact we ho
             . refine gcl ho λyd hw ho=>?_;refine wbr ho (λhm ho=>?_) λhm ho=>?_
               . refine gk ?_;exact we ho
               . refine wbr ho (λhn ho=>?_) λhn ho=>?_
                 . refine gk ?_;exact we ho
                 . refine wbr ho (λhp ho=>?_) λhp ho=>?_
                   . refine run 11 ?_;exact we ho
                   . refine gk ?_;exact we ho
         . exact lv [] [] ho
       . exact we ho
       . exact rv ho
     . exact rv ho⟩
instance i32 {a b b_2}:FI ktab 32 (zG a b b_2) [.val (zL zQ) a,vI b,vI b_2] (λout=>[wB out]):=⟨λout ho=>by
 delta zG at ho;refine fn λ_ _=>?_;obtain ⟨x5,hx5,x6,hx6,ho⟩:=zff ho;refine gal λb7=>?_;refine gal λb8=>?_;refine gfz 1 zcp x5 1 [7] ?_;refine gfz 1 zcp x6 0 [8] ?_;obtain ⟨xa,hc,xb,hd,ca,ha,ho⟩:=zok ho;refine run 19 ?_;refine gcx ca [] [] (λt=>(.normal,λ_=>([(6,vB t)],[]))) ?_ λ_=>?_
 . exact we ha
 . exact rv ho⟩
theorem zfe {rec:Int->Int->List Bool->List Bool->zae->List Int->Option (Bool×List Bool×List Int)} (hrec:∀ {o j k l i m} {out:(Bool×List Bool×List Int)},rec o j k l i m=Ob out->∀ (f:Nat) (d:zd) (e:Nat) (a:zd),zfL ktab 92 [.val (zh .i64) o,.val (zL (zh .i64)) j,.val (zL (zb zw)) k,.raw (.ptr f 0),.val (zL (zL zQ)) i,.raw (.ptr e 0),.val (zfG 92 [.val (zL (zh .i64)) j,.val (zL (zb zw)) k,.raw (.ptr f 0),.val (zL (zL zQ)) i,.raw (.ptr e 0)]) ()] [(.ptr f 0,.box [.raw d]),(d,.row zw l),(.ptr e 0,.box [.raw a]),(a,.row (zh .i64) m)] [.val zw out.1] (λγ=>[(.ptr f 0,.box [.raw (gh γ 0)]),(gh γ 0,.row zw out.2.1),(.ptr e 0,.box [.raw (gh γ 1)]),(gh γ 1,.row (zh .i64) out.2.2)])) {o:Int} {j:Int} {k:(List Bool)} {l:(List Bool)} {i:zae} {m:(List Int)} {out:(Bool×List Bool×List Int)} (ho:za7 rec o j k l i m=Ob out) (f:Nat) (d:zd) (e:Nat) (a:zd):zfL ktab 92 [.val (zh .i64) o,.val (zL (zh .i64)) j,.val (zL (zb zw)) k,.raw (.ptr f 0),.val (zL (zL zQ)) i,.raw (.ptr e 0),.val (zfG 92 [.val (zL (zh .i64)) j,.val (zL (zb zw)) k,.raw (.ptr f 0),.val (zL (zL zQ)) i,.raw (.ptr e 0)]) ()] [(.ptr f 0,.box [.raw d]),(d,.row zw l),(.ptr e 0,.box [.raw a]),(a,.row (zh .i64) m)] [.val zw out.1] (λγ=>[(.ptr f 0,.box [.raw (gh γ 0)]),(gh γ 0,.row zw out.2.1),(.ptr e 0,.box [.raw (gh γ 1)]),(gh γ 1,.row (zh .i64) out.2.2)]):=by
 refine zco (F:=Tryz.f92) Om Om Om (λC=>?_);delta za7 at ho;obtain ⟨ta,hc,ho⟩:=bnd ho;refine gl2 hc ho [0,1,2,3,4,5,6] [] [0,2,1,3] (λs g=>([(9,vI s.1)],[(.ptr f 0,.box [.raw (gh g 0)]),(.ptr e 0,.box [.raw (gh g 1)]),(gh g 0,.row zw s.2.1),(gh g 1,.row (zh .i64) s.2.2)])) (λb=>(.exit 0,λg=>([],[(.ptr f 0,.box [.raw (gh g 0)]),(.ptr e 0,.box [.raw (gh g 1)]),(gh g 0,.row zw b.1),(gh g 1,.row (zh .i64) b.2)]))) (λb=>(.ret,λg=>([(8,vB b.1)],[(.ptr f 0,.box [.raw (gh g 0)]),(.ptr e 0,.box [.raw (gh g 1)]),(gh g 0,.row zw b.2.1),(gh g 1,.row (zh .i64) b.2.2)]))) [d,a] (λsa ga _ ho=>?_) (λba ho gb=>?_) λbb ho gb=>?_
 . refine gct ho (λhd ho=>?_) λhd ho=>?_
   . obtain ⟨xb,hj,ho⟩:=bnd ho;refine wbr ho (λhe ho=>?_) λhe ho=>?_
     . refine gk ?_;exact lv [gh ga 0,gh ga 1] [0,1,2,3] ho
     . obtain ⟨xd,hk,ho⟩:=bnd ho;refine wbr ho (λhf ho=>?_) λhf ho=>?_
       . refine gk ?_;exact lv [gh ga 0,gh ga 1] [0,1,2,3] ho
       . refine gcl ho λya hl ho=>?_;refine gct ho (λhg ho=>?_) λhg ho=>?_
         . exact lv [gh ga 0,gh ga 1] [0,1,2,3] ho
         . obtain ⟨xe,hm,ho⟩:=bnd ho;refine run 9 ?_;refine zaK [0,3,7,10] Z ?_;obtain ⟨xf,hn,ho⟩:=bnd ho;refine wbr ho (λha ho=>?_) λha ho=>?_
           . refine gk ?_;refine run 5 ?_;obtain ⟨xg,hp,ho⟩:=bnd ho;exact lv [gh ga 0,gh ga 1] [0,1,2,3] ho
           . refine run 6 ?_;refine zhr rfl zxl (.g rfl rfl (gf0 ha)) rfl rfl (.t rfl) ?_;obtain ⟨xa,hr,yb,hh,ho⟩:=zff ho;refine run 4 ?_;refine zhq (ps:=[]) (es:=[vI xa]) (cs:=[.val (zL (zh .i64)) j,.val (zL (zb zw)) k,.raw (.ptr f 0),.val (zL (zL zQ)) i,.raw (.ptr e 0),.val (zfG 92 [.val (zL (zh .i64)) j,.val (zL (zb zw)) k,.raw (.ptr f 0),.val (zL (zL zQ)) i,.raw (.ptr e 0)]) ()]) [0,2,1,3] [] (λ_ h=>by cases h<;>exact ⟨by kernel_rfl,by kernel_rfl⟩) (hrec hh f (gh ga 0) e (gh ga 1)) rfl rfl Oa rfl (.g rfl rfl (gf0 ha)) rfl rfl rfl (.t rfl) (.c (.t rfl) .n) ?_;intro gc;show zm ..;refine gct ho (λhi ho=>?_) λhi ho=>?_
             . obtain ⟨xh,hs,ho⟩:=bnd ho;exact lv [gh gc 0,gh gc 1] [0,2,1,3] ho
             . exact lv [gh gc 0,gh gc 1] [0,2,1,3] ho
   . exact lv [gh ga 0,gh ga 1] [0,1,2,3] ho
 . refine run 4 ?_;cases ho; exact zdR (zP [0,2,1,3] [gh gb 0,gh gb 1] (.inr rfl) (.v rfl .n) rfl Oa)
 . cases ho; exact id (zP [0,2,1,3] [gh gb 0,gh gb 1] (.inr rfl) (.v rfl .n) rfl Oa)
theorem zgq {k:Nat} {i f g j e l out} (ho:zbO k i f g j e l=Ob out) (c:Nat) (b:zd) (d:Nat) (a:zd):zfL ktab 92 [.val (zh .i64) i,.val (zL (zh .i64)) f,.val (zL (zb zw)) g,.raw (.ptr c 0),.val (zL (zL zQ)) e,.raw (.ptr d 0),.val (zfG 92 [.val (zL (zh .i64)) f,.val (zL (zb zw)) g,.raw (.ptr c 0),.val (zL (zL zQ)) e,.raw (.ptr d 0)]) ()] [(.ptr c 0,.box [.raw b]),(b,.row zw j),(.ptr d 0,.box [.raw a]),(a,.row (zh .i64) l)] [.val zw out.1] (λγ=>[(.ptr c 0,.box [.raw (gh γ 0)]),(gh γ 0,.row zw out.2.1),(.ptr d 0,.box [.raw (gh γ 1)]),(gh γ 1,.row (zh .i64) out.2.2)]):=by
 induction k generalizing i f g j e l out c b d a with
 | zero=>cases ho
 | succ k ih=>exact zfe (λh c b d a=>ih h c b d a) ho c b d a
instance i59 {d fixed_1}:FI ktab 59 (zaY d fixed_1) [.val (zL zQ) d,.val (zb (zh .i64)) fixed_1] (λout=>[wI out]):=⟨λout ho=>by
 delta zaY at ho;refine fn λ_ _=>?_;refine gal λb1=>?_;refine run 1 ?_;refine zdh (zb8 (R:=zh .i64) (a:=zq d.1) 0 [5] (zz rfl) rfl rfl ⟨rfl,trivial⟩) ?_;obtain ⟨x2,hx2,ho⟩:=bnd ho;refine gmk λv3=>?_;refine zdh (zbN (zh .i64)) ?_;refine gal λb4=>?_;refine zbv 0 2 (U27).sz rfl rfl Og (.n rfl) rfl rfl (.t rfl) (.t rfl) Om ?_;obtain ⟨tb,ha,ho⟩:=bnd ho;refine glp ha [1,2,5,6,23] [] [0,2] (λs g=>([(24,vI s.1)],[(.ptr b4 0,.box [.raw (gh g 0)]),(gh g 0,.row (zh .i64) s.2)])) (λb=>(.exit 0,λg=>([],[(.ptr b4 0,.box [.raw (gh g 0)]),(gh g 0,.row (zh .i64) b)]))) [v3] (λs9 gd _ ho=>?_) λge=>?_
 . refine gct ho (λhc ho=>?_) λhc ho=>?_
   . obtain ⟨xa,hk,ho⟩:=bnd ho;exact lv [gh gd 0] [0,1] ho
   . exact lv [gh gd 0] [0,1] ho
 . obtain ⟨xb,hl,ho⟩:=bnd ho;refine gmk λva=>?_;refine zdh (zbN zw) ?_;refine gal λbb=>?_;refine zbv 0 2 (U49).sz rfl rfl Og (.n rfl) rfl rfl (.t rfl) (.t rfl) Om ?_;obtain ⟨ta,hd,ho⟩:=bnd ho;refine glp hd [1,2,5,6,9,33,34] [3,4] [0,2,3,4] (λs g=>([(8,vI s.1),(35,vI s.2.1)],[(.ptr bb 0,.box [.raw (gh g 0)]),(gh g 0,.row zw s.2.2)])) (λb=>(.exit 2,λg=>([(8,vI b.1)],[(.ptr bb 0,.box [.raw (gh g 0)]),(gh g 0,.row zw b.2)]))) [va] (λsb gb _ ho=>?_) λgf=>?_
   . refine gct ho (λhe ho=>?_) λhe ho=>?_
     . obtain ⟨xd,hm,ho⟩:=bnd ho;refine gct ho (λhf ho=>?_) λhf ho=>?_
       . obtain ⟨xe,hn,ho⟩:=bnd ho;exact lv [gh gb 0] [0,1,2,3] ho
       . exact lv [gh gb 0] [0,1,2,3] ho
     . exact lv [gh gb 0] [0,1,2,3] ho
   . refine run 2 ?_;refine zdh (zbN zw) ?_;refine gal λba=>?_;refine gal λbc=>?_;refine run 3 ?_;refine zdh (zcS 4 3 (q:=0) [] rfl rfl rfl rfl Om trivial) ?_;refine zdh (zb8 (R:=zb zw) (a:=ta.2) 3 [9] (zz rfl) rfl rfl ⟨rfl,trivial⟩) ?_;refine zi0 (.n rfl) rfl rfl .n (.c (.t rfl) (.c (.t rfl) (.c (.t rfl) (.c (.t rfl) (.c (.t rfl) (.c (.t rfl) .n)))))) ?_;refine zjL 0 (zxl).sz rfl Og (.n rfl) rfl rfl (.t rfl) (.t rfl) rfl rfl ?_;refine zdh (zlP 0 [13] (zpH (g:=92) (cs:=[.val (zL (zh .i64)) (zq d.1),.val (zL (zb zw)) ta.2,.raw (.ptr ba 0),.val (zL (zL zQ)) d,.raw (.ptr b4 0)]) rfl) rfl rfl ⟨rfl,trivial⟩) ?_;obtain ⟨tc,hg,ho⟩:=bnd ho;refine glp hg [5,12,13] [] [0,2,1,3] (λs g=>([(8,vI s.1),(14,vI s.2.1)],[(.ptr ba 0,.box [.raw (gh g 0)]),(.ptr b4 0,.box [.raw (gh g 1)]),(gh g 0,.row zw s.2.2.1),(gh g 1,.row (zh .i64) s.d3)])) (λb=>(.exit 4,λg=>([(8,vI b.1)],[]))) [.nsz,gh ge 0] (λsa gc _ ho=>?_) λgg=>?_
     . refine gct ho (λhh ho=>?_) λhh ho=>?_
       . obtain ⟨xf,hp,ho⟩:=bnd ho;refine gmk λvb=>?_;refine zbv 1 0 (U49).sz rfl rfl Og (.n rfl) rfl rfl (.t rfl) (.t rfl) Om ?_;refine run 3 ?_;refine zhr rfl zxl (.n rfl) rfl rfl (.t rfl) ?_;obtain ⟨ya,hi,ho⟩:=bnd ho;refine run 1 ?_;refine zhq (ps:=[]) (es:=[vI sa.2.1]) (cs:=[.val (zL (zh .i64)) (zq d.1),.val (zL (zb zw)) ta.2,.raw (.ptr ba 0),.val (zL (zL zQ)) d,.raw (.ptr b4 0),.val (zfG 92 [.val (zL (zh .i64)) (zq d.1),.val (zL (zb zw)) ta.2,.raw (.ptr ba 0),.val (zL (zL zQ)) d,.raw (.ptr b4 0)]) ()]) [1,0,2,4] [3] (λ_ h=>by cases h) (zgq hi ba vb b4 (gh gc 1)) rfl rfl Oa rfl (.n rfl) rfl rfl rfl (.t rfl) (.c (.t rfl) .n) ?_;intro ga;show zm ..;refine gct ho (λhj ho=>?_) λhj ho=>?_
         . exact lv [gh ga 0,gh ga 1] [0,2,1,3] ho
         . exact lv [gh ga 0,gh ga 1] [0,2,1,3] ho
       . exact lv [gh gc 0,gh gc 1] [] ho
     . exact we ho⟩
instance i93 {a v_1}:FI ktab 93 (zcj a v_1) [.val (zb (zh .i64)) a,vI v_1] (λout=>[wI out]):=⟨λout ho=>by
 delta zcj at ho;refine fn λ_ _=>?_;obtain ⟨t9,ht9,ho⟩:=bnd ho;refine gl2 ht9 ho [0,1,7] [] [] (λs g=>([(8,vI s)],[])) (λb=>(.exit 0,λg=>([],[]))) (λb=>(.ret,λg=>([(4,vI b)],[]))) [] (λs4 g5 _ ho=>?_) (λba ho ga=>?_) λbb ho ga=>?_
 . exact we ho
 . exact we ho
 . exact rv ho⟩
instance i60 {a v_1}:FI ktab 60 (zbK a v_1) [.val (zb (zh .i64)) a,vI v_1] (λout=>[wB out]):=fw
instance i61 {s_0}:FI ktab 61 (zck s_0) [.val (zb (zh .i64)) s_0] (λout=>[.row (zh .i64) out]):=⟨λout ho=>by
 delta zck at ho;refine fn λ_ _=>?_;refine gnr (zh .i64) ?_;refine run 5 ?_;refine zw3 is' (.n rfl) rfl rfl (.t rfl) (λhe=>?_) ?_
 . subst he;have e:out=[]:=by simp [zcY] at ho; first | exact ho | exact ho.symm
   subst e;refine gk ?_;refine gnr (zh .i64) ?_;refine run 1 ?_;exact zdR (zdd (.inr rfl) (.r 0 rfl rfl .n) Oa)
 . refine gk ?_;refine run 3 ?_;refine zA9 (R:=zh .i64) is' iy' (.n rfl) rfl rfl (Elts.n (R:=zh .i64)) rfl Oa ?_;intro v1;refine gap λv2=>?_;refine run 2 ?_;exact zdR (zdd (.inr rfl) (.r 0 rfl rfl .n) Oa)⟩
instance i33 {w_0}:FI ktab 33 (zbi w_0) [.val (zL zQ) w_0] (λout=>[.row (zh .i64) out]):=⟨λout ho=>by
 delta zbi at ho;refine fn λ_ _=>?_;refine gnr (zh .i64) ?_;refine run 1 ?_;refine zoM (by exact zmC) ?_;obtain ⟨y1,hy1,ho⟩:=bnd ho;refine run 12 ?_;refine zfF (i59.ok _ hy1) (.v zc9 .n) rfl (.n rfl) rfl rfl rfl .f (.c (.o (.t rfl)) (.c (.o .nil) .n)) ?_;show zm ..;refine gnr (zh .i64) ?_;obtain ⟨ta,ha,ho⟩:=bnd ho;refine glp ha [0,3,4,15] [] [0] (λs g=>([(5,.raw (gh g 0)),(16,vI s.2)],[(gh g 0,.row (zh .i64) s.1)])) (λb=>(.exit 0,λg=>([(5,.raw (gh g 0))],[(gh g 0,.row (zh .i64) b)]))) [.nsz] (λsa gb _ ho=>?_) λgd=>?_
 . refine gct ho (λhc ho=>?_) λhc ho=>?_
   . obtain ⟨tb,hd,ho⟩:=bnd ho;refine gl2 hd ho [0,3,4,6,15,16] [] [0] (λs g=>([(5,.raw (gh g 0)),(7,vI s.2)],[(gh g 0,.row (zh .i64) s.1)])) (λb=>(.exit 1,λg=>([(5,.raw (gh g 0)),(32,vI b.2.1),(33,vB b.2.2.1),(34,vB b.d3.1),(37,.val (zL zQ) b.d4.1),(40,vI b.d5.1),(41,.val (zb (zh .i64)) b.d6.1),(42,.raw (gh g 1)),(43,vI b.d8.1),(44,vI b.d9.1),(45,vB b.d9.2)],[(gh g 0,.row (zh .i64) b.1),(gh g 1,.row (zh .i64) b.d7.1)]))) (λb=>(.exit 2,λg=>([(5,.raw (gh g 0))],[(gh g 0,.row (zh .i64) b)]))) [gh gb 0] (λsb ga _ ho=>?_) (λba ho gc=>?_) λbb ho gc=>?_
     . refine gct ho (λhe ho=>?_) λhe ho=>?_
       . refine gcl ho λya hi ho=>?_;refine wbr ho (λhf ho=>?_) λhf ho=>?_
         . refine gcl ho λyb hj ho=>?_;refine wbr ho (λhg ho=>?_) λhg ho=>?_
           . refine gcl ho λyc hk ho=>?_;intro vd;show zm ..;obtain ⟨xa,hl,ho⟩:=bnd ho;refine gap λva=>?_;refine gcl ho λyd hm ho=>?_;refine gct ho (λhh ho=>?_) λhh ho=>?_
             . obtain ⟨xb,hn,ho⟩:=bnd ho;refine gap λvb=>?_;exact lv [vb,va] [0,1] ho
             . exact lv [gh ga 0] [1] ho
           . refine gk ?_;exact lv [gh ga 0] [0] ho
         . refine gk ?_;exact lv [gh ga 0] [0] ho
       . exact lv [gh ga 0] [0] ho
     . exact lv [gh gc 0] [0] ho
     . obtain ⟨xd,hp,ho⟩:=bnd ho;refine gap λvc=>?_;exact lv [vc] [0] ho
   . exact lv [gh gb 0] [0] ho
 . exact we ho⟩
theorem zhg {rec:Int->List Bool->Int->zae->List Bool->List Int->Option (List Bool×List Bool)} (hrec:∀ {m o k i l j} {out:(List Bool×List Bool)},rec m o k i l j=Ob out->∀ (e:Nat) (d:zd) (f:Nat) (a:zd),zfL ktab 34 [.val (zh .i64) m,.raw (.ptr e 0),.val (zL (zh .i64)) k,.val (zL (zL zQ)) i,.raw (.ptr f 0),.val (zL (zb (zh .i64))) j,.val (zfG 34 [.raw (.ptr e 0),.val (zL (zh .i64)) k,.val (zL (zL zQ)) i,.raw (.ptr f 0),.val (zL (zb (zh .i64))) j]) ()] [(.ptr e 0,.box [.raw d]),(d,.row zw o),(.ptr f 0,.box [.raw a]),(a,.row zw l)] [] (λγ=>[(.ptr e 0,.box [.raw (gh γ 0)]),(gh γ 0,.row zw out.1),(.ptr f 0,.box [.raw (gh γ 1)]),(gh γ 1,.row zw out.2)])) {m:Int} {o:(List Bool)} {k:Int} {i:zae} {l:(List Bool)} {j:(List Int)} {out:(List Bool×List Bool)} (ho:zcw rec m o k i l j=Ob out) (e:Nat) (d:zd) (f:Nat) (a:zd):zfL ktab 34 [.val (zh .i64) m,.raw (.ptr e 0),.val (zL (zh .i64)) k,.val (zL (zL zQ)) i,.raw (.ptr f 0),.val (zL (zb (zh .i64))) j,.val (zfG 34 [.raw (.ptr e 0),.val (zL (zh .i64)) k,.val (zL (zL zQ)) i,.raw (.ptr f 0),.val (zL (zb (zh .i64))) j]) ()] [(.ptr e 0,.box [.raw d]),(d,.row zw o),(.ptr f 0,.box [.raw a]),(a,.row zw l)] [] (λγ=>[(.ptr e 0,.box [.raw (gh γ 0)]),(gh γ 0,.row zw out.1),(.ptr f 0,.box [.raw (gh γ 1)]),(gh γ 1,.row zw out.2)]):=by
 refine zco (F:=Tryz.f34) Om Om Om (λC=>?_);delta zcw at ho;obtain ⟨x1,hx1,ho⟩:=bnd ho;refine gct ho (λhq2 ho=>?_) λhq2 ho=>?_
 . cases ho; exact zdR (zP [0,1,2,3] [d,a] (.inr rfl) .n rfl Oa)
 . obtain ⟨x3,hx3,ta,ha,ho⟩:=zff ho;refine glp ha [0,3,4,5,6,16] [] [0,2,1,3] (λs g=>([(17,vI s.1)],[(.ptr e 0,.box [.raw (gh g 0)]),(.ptr f 0,.box [.raw (gh g 1)]),(gh g 0,.row zw s.2.1),(gh g 1,.row zw s.2.2)])) (λb=>(.exit 0,λg=>([],[(.ptr e 0,.box [.raw (gh g 0)]),(.ptr f 0,.box [.raw (gh g 1)]),(gh g 0,.row zw b.1),(gh g 1,.row zw b.2)]))) [d,a] (λsa ga _ ho=>?_) λgb=>?_
   . refine gct ho (λhc ho=>?_) λhc ho=>?_
     . refine gcl ho λya hh ho=>?_;refine wbr ho (λhd ho=>?_) λhd ho=>?_
       . obtain ⟨xb,hi,ho⟩:=bnd ho;refine gct ho (λhe ho=>?_) λhe ho=>?_
         . obtain ⟨xd,hj,xe,hk,ho⟩:=zff ho;refine gct ho (λhf ho=>?_) λhf ho=>?_
           . refine run 1 ?_;refine zhr rfl zxk (.n rfl) rfl rfl (.t rfl) ?_;obtain ⟨xa,hl,yb,hg,ho⟩:=zff ho;refine run 4 ?_;refine zhq (ps:=[]) (es:=[vI xa]) (cs:=[.raw (.ptr e 0),.val (zL (zh .i64)) k,.val (zL (zL zQ)) i,.raw (.ptr f 0),.val (zL (zb (zh .i64))) j,.val (zfG 34 [.raw (.ptr e 0),.val (zL (zh .i64)) k,.val (zL (zL zQ)) i,.raw (.ptr f 0),.val (zL (zb (zh .i64))) j]) ()]) [0,2,1,3] [] (λ_ h=>by cases h<;>exact ⟨by kernel_rfl,by kernel_rfl⟩) (hrec hg e (gh ga 0) f (gh ga 1)) rfl rfl Oa rfl (.n rfl) rfl rfl rfl (.t rfl) (.c (.t rfl) .n) ?_;intro gc;show zm ..;exact lv [gh gc 0,gh gc 1] [0,2,1,3] ho
           . exact lv [gh ga 0,gh ga 1] [0,1,2,3] ho
         . exact lv [gh ga 0,gh ga 1] [0,1,2,3] ho
       . refine gk ?_;exact lv [gh ga 0,gh ga 1] [0,1,2,3] ho
     . exact lv [gh ga 0,gh ga 1] [0,1,2,3] ho
   . cases ho; exact id (zP [0,2,1,3] [gh gb 0,gh gb 1] (.inl rfl) .n rfl Oa)
theorem zjC {k:Nat} {j l f e i g out} (ho:zdG k j l f e i g=Ob out) (c:Nat) (b:zd) (d:Nat) (a:zd):zfL ktab 34 [.val (zh .i64) j,.raw (.ptr c 0),.val (zL (zh .i64)) f,.val (zL (zL zQ)) e,.raw (.ptr d 0),.val (zL (zb (zh .i64))) g,.val (zfG 34 [.raw (.ptr c 0),.val (zL (zh .i64)) f,.val (zL (zL zQ)) e,.raw (.ptr d 0),.val (zL (zb (zh .i64))) g]) ()] [(.ptr c 0,.box [.raw b]),(b,.row zw l),(.ptr d 0,.box [.raw a]),(a,.row zw i)] [] (λγ=>[(.ptr c 0,.box [.raw (gh γ 0)]),(gh γ 0,.row zw out.1),(.ptr d 0,.box [.raw (gh γ 1)]),(gh γ 1,.row zw out.2)]):=by
 induction k generalizing j l f e i g out c b d a with
 | zero=>cases ho
 | succ k ih=>exact zhg (λh c b d a=>ih h c b d a) ho c b d a
end Go.Ai.TabYtnngmijajnldlaaGreat