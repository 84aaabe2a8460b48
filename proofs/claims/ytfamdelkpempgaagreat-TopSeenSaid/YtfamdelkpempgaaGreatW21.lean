/- Written by program: walks through functions. -/
import Derived.Test.YtfamdelkpempgaaGreatW11
import Derived.Test.YtfamdelkpempgaaGreatW19
import Derived.Test.YtfamdelkpempgaaGreatW20
set_option linter.unusedSimpArgs false
set_option linter.unusedVariables false
set_option linter.unusedSectionVars false
open Option renaming some→Ob,none→Oe
open Bool renaming false→Oc,true→Od
namespace Go.Ai.TabYtfamdelkpempgaaGreat
open Go Go.Ai Go.Ai.Sx Go.Proofs
attribute [local irreducible] zr
set_option maxRecDepth 100000
set_option maxHeartbeats 4000000
theorem zfC {σ τ:Type} {step:σ->zd->Option (σ⊕τ)} {yv:zb} {K:σ⊕τ->List zb->Sx.Obj} (hcb:zra ktab yv (λx=>[.val zx x]) step K) {s_:σ} {d e f out} (ho:zbd step s_ d e f=Ob out) (a:Nat) (γ0:List zb):zh1 ktab 239 [.raw yv,.raw (.ptr a 0),.val (zaO (zaO zR)) e,.val (zaO (rFn ktab zd Int (λx=>[.val zx x]) (λy=>[.val (zi .i64) y]))) f] [(yv,K (.inl s_) γ0),(.ptr a 0,.box [vI d.1,vI d.2.1])] [] (λγ=>[(yv,K out.1 (untup (gh γ 0))),(.ptr a 0,.box [vI out.2.1,vI out.2.2.1])]):=by
 refine zeT (F:=Tryz.f239) Om Om Om (λC=>?_);delta zbd at ho;obtain ⟨ta,ha,ho⟩:=bnd ho;refine gl2 ha ho [0,1,2,3] [] [0,1] (λs g=>([(7,vI s.1)],[(yv,K s.2.1 (untup (gh g 0))),(.ptr a 0,.box [vI s.2.2.1,vI s.d3])])) (λb=>(.exit 0,λg=>([],[(yv,K b.1 (untup (gh g 0))),(.ptr a 0,.box [vI b.2.1,vI b.2.2])]))) (λb=>(.ret,λg=>([],[(yv,K b.1 (untup (gh g 0))),(.ptr a 0,.box [vI b.2.1,vI b.2.2])]))) [.tuple γ0] (λsa ga _ ho=>?_) (λba ho gb=>?_) λbb ho gb=>?_
 . refine gct ho (λhc ho=>?_) λhc ho=>?_
   . refine gct ho (λhd ho=>?_) λhd ho=>?_
     . exact lv [.tuple (untup (gh ga 0))] [0,1] ho
     . refine run 2 ?_;refine zax [1,3] Z ?_;refine glb (sa.2.2.1,sa.d3,()) 1 ?_;refine glb (sa.2.2.1,sa.d3,()) 1 ?_;obtain ⟨yb,he,ho⟩:=bnd ho;refine gcv he ?_;refine gcl ho λya hi ho=>?_;refine gal λbc=>?_;refine gfz 1 zaX ya.1 0 [5] ?_;refine gct ho (λhf ho=>?_) λhf ho=>?_
       . exact lv [.tuple (untup (gh ga 0))] [0,1] ho
       . refine glb ya.1.1 1 ?_;obtain ⟨sb,hs37,ho⟩:=bnd ho;refine zem (znV (K:=K) 0 (zja hs37) rfl rfl) ?_;obtain ⟨yc,hg,ho⟩:=bnd ho;refine zkA [0] [1] (λ_ h=>by cases h) hcb hg rfl rfl rfl Oa (.n rfl) rfl rfl rfl (.t rfl) (.c (.t rfl) .n) ?_;intro va;refine gct ho (λhh ho=>?_) λhh ho=>?_
         . exact lv [.tuple va] [0,1] ho
         . exact lv [.tuple va] [0,1] ho
   . exact lv [.tuple (untup (gh ga 0))] [0,1] ho
 . cases ho; exact id (za7 [0,1] [.tuple (untup (gh gb 0))] (.inl rfl) .n rfl Oa)
 . cases ho; exact id (za7 [0,1] [.tuple (untup (gh gb 0))] (.inr rfl) .n rfl Oa)
theorem zf7 {d b a out} (ho:zcf d b a=Ob out):zBn ktab 218 [.val (zaO zR) d,.val zx b,.val (rFn ktab zd Int (λx=>[.val zx x]) (λy=>[.val (zi .i64) y])) a] 239 [.val (zi .i64) out.1.1,.val (zi .i64) out.1.2.1] [.val (zaO (zaO zR)) out.2.1,.val (zaO (rFn ktab zd Int (λx=>[.val zx x]) (λy=>[.val (zi .i64) y]))) out.2.2]:=by
 refine zxu (F:=Tryz.f218) Om Om Om (λC hC=>?_);delta zcf at ho;refine run 3 ?_;refine xbo λb1=>?_;refine run 1 ?_;refine zal rfl (.n rfl) rfl (e:=.raw .nfz) (λz fr h s=>⟨_,rfl,by simp only [TE.ok]; rfl⟩) ?_;refine run 3 ?_;refine zmz (.n rfl) rfl rfl .n (.c (.t rfl) (.c (.t rfl) (.c (.t rfl) .n))) ?_;refine run 2 ?_;cases ho; exact zfr (zxt 0 (.inr rfl) rfl rfl)
instance i190 {b a stop_2}:FI ktab 190 (zcp b a stop_2) [.val (zaO zaH) b,.val zx a,vI stop_2] (λout=>[wB out]):=⟨λout ho=>by
 delta zcp at ho;refine fn λ_ _=>?_;refine gal λb1=>?_;refine gcl ho λy2 hy2 ho=>?_;refine gct ho (λhq3 ho=>?_) λhq3 ho=>?_
 . exact we ho
 . refine gal λb4=>?_;refine run 11 ?_;refine zhM (X:=zd) (Y:=Int) (λx=>[.val zx x]) (λy=>[.val (zi .i64) y]) (f:=(λx=>zaT b x)) (λx y hf=>i188.ok _ hf) rfl (.n rfl) rfl rfl (.c (.t rfl) .n) .n ?_;obtain ⟨y7,hy7,ho⟩:=bnd ho;refine zxv (zf7 hy7) rfl (.n rfl) rfl rfl rfl .f (.c (.t rfl) (.c (.t rfl) (.c (.t rfl) .n))) ?_;intro b8;obtain ⟨ta,ha,ho⟩:=bnd ho;refine run 2 ?_;obtain ⟨ta,t21b⟩:=ta;refine zu9 (σ:=(Int×Int)) (τ:=(Int×Int)) (X:=zd) (ins:=(λx=>[.val zx x])) (zAK (λs g=>[(.ptr b4 0,.box [vI s.1,vI s.2]),(.ptr b1 0,.box [vB Oc])]) (λt g=>[(.ptr b4 0,.box [vI t.1,vI t.2]),(.ptr b1 0,.box [vB Oc])])) (λ_=>Oe) (s0:=(a.1,a.2.1)) (r:=ta) [] [1,2] [0] [] rfl (.t rfl) rfl rfl rfl Oa (λ_=>rfl) (λyv K hcb γ=>zmB (zsI (zfC hcb ha b8 γ))) ?_ ?_
   . clear ho ha;intro sa ga x9 r22 ho C;refine gal λba=>?_;refine gfz 1 zx x9 0 [8] ?_;refine zfp (λfr h s=>And.intro rfl (Exists.intro _ (Exists.intro _ (And.intro s (λC=>?_)))));refine gcl ho λya hd ho=>?_;refine gct ho (λhc ho=>?_) λhc ho=>?_
     . refine run 4 ?_;cases ho; exact zfr (λfr h s=>And.intro rfl (Exists.intro [] (s.pick [0,1] trivial rfl Oa)))
     . refine run 4 ?_;cases ho; exact zfp (λfr h s=>And.intro rfl (Exists.intro [] (s.pick [0,1] trivial rfl Oa)))
   . clear ha;rcases ta with bb | bc
     . have ho:=zxg ho;intro gb;refine gwk [0,1,2,3,4,5,6,7,9,10,11,12,13,14,15,16,17,18,19,20,21] [0,1] ?_;exact we ho
     . have ho:=zxh ho;intro gc;refine gwk [0,1,2,3,4,5,6,7,9,10,11,12,13,14,15,16,17,18,19,20,21] [0,1] ?_;exact rv ho⟩
instance i163 {a c stop_2}:FI ktab 163 (zaY a c stop_2) [.val (zaO zaH) a,.val zx c,vI stop_2] (λout=>[.val zaX out.1,wB out.2]):=⟨λout ho=>by
 delta zaY at ho;refine fn λ_ _=>?_;refine gal λb1=>?_;refine run 2 ?_;refine zxe (by exact zuQ) ?_;refine gcl ho λy2 hy2 ho=>?_;refine gal λb3=>?_;obtain ⟨ta,ha,ho⟩:=bnd ho;refine glp ha [0,2,4,6,8,9] [1] [0,1] (λs g=>([(10,vB s.1),(17,vI s.2.1)],[(.ptr b3 0,.box [vI s.2.2.1,vI s.d3.1,vI s.d4.1,vI s.d5.1,vI s.d6.1,vI s.d7.1,vI s.d8.1,vI s.d9.1,vI s.d9.2.1,vI s.d9.2.2])])) (λb=>(.exit 0,λg=>([(10,vB b.1)],[(.ptr b3 0,.box [vI b.2.1,vI b.2.2.1,vI b.d3.1,vI b.d4.1,vI b.d5.1,vI b.d6.1,vI b.d7.1,vI b.d8.1,vI b.d9.1,vI b.d9.2])]))) [] (λsa ga _ ho=>?_) λgb=>?_
 . refine gct ho (λhc ho=>?_) λhc ho=>?_
   . refine gcl ho λya hf ho=>?_;refine gal λba=>?_;refine gfz 1 zaX ya.1 0 [12] ?_;refine wbr ho (λhd ho=>?_) λhd ho=>?_
     . refine gcl ho λyb hg ho=>?_;refine gct ho (λhe ho=>?_) λhe ho=>?_
       . exact lv [] [0,1] ho
       . exact lv [] [0,1] ho
     . refine gk ?_;exact lv [] [0,1] ho
   . exact lv [] [0,1] ho
 . refine glb ((ta.2.1,ta.2.2.1,()),(ta.d3.1,ta.d4.1,ta.d5.1,ta.d6.1,ta.d7.1,ta.d8.1,()),ta.d9.1,ta.d9.2,()) 0 ?_;exact we ho⟩
instance i164 {l_0}:FI ktab 164 (zda l_0) [.val (ze zC) l_0] (λout=>[.val zC out]):=⟨λout ho=>by
 delta zda at ho;refine fn λ_ _=>?_;refine gal λb1=>?_;refine gal λb2=>?_;obtain ⟨ta,ha,ho⟩:=bnd ho;refine glp ha [2,3,6,7] [1] [0,1] (λs g=>([(8,vI s.1)],[(.ptr b2 0,.box [vI s.2.1,vI s.2.2.1,vI s.d3.1,vI s.d4.1,vI s.d5.1,vI s.d6])])) (λb=>(.exit 0,λg=>([],[(.ptr b2 0,.box [vI b.1,vI b.2.1,vI b.2.2.1,vI b.d3.1,vI b.d4.1,vI b.d5])]))) [] (λs9 ga _ ho=>?_) λgb=>?_
 . refine gct ho (λhc ho=>?_) λhc ho=>?_
   . obtain ⟨xa,hd,ho⟩:=bnd ho;refine gal λba=>?_;refine gfz 1 zC xa 0 [5] ?_;exact lv [] [0,1] ho
   . exact lv [] [0,1] ho
 . refine glb (ta.1,ta.2.1,ta.2.2.1,ta.d3.1,ta.d4.1,ta.d5,()) 0 ?_;exact we ho⟩
instance i122 {d e stop_2}:FI ktab 122 (zbD d e stop_2) [.val (zaO zaH) d,.val zx e,vI stop_2] (λout=>[.val zgE out.1,.val zx out.2.1,wB out.2.2]):=⟨λout ho=>by
 delta zbD at ho;refine fn λ_ _=>?_;refine run 2 ?_;refine xbo λb1=>?_;refine gal λb2=>?_;refine gal λb3=>?_;refine gal λb4=>?_;obtain ⟨ta,ha,ho⟩:=bnd ho;refine glp ha [0,2,4,6,7,9] [] [0,1,2,3] (λs g=>([(10,vI s.1)],[(.ptr b4 0,.box [vI s.2.1,vI s.2.2.1,vI s.d3.1,vI s.d4.1,vI s.d5.1,vI s.d6.1,vI s.d7.1,vI s.d8.1,vI s.d9.1,vI s.d9.2.1]),(.ptr b3 0,.box [vI s.d9.2.2.1,vI s.d9.d3.1]),(.ptr b2 0,.box [vI s.d9.d7.1,vI s.d9.d4.1,vI s.d9.d8.1,vI s.d9.d9.1,vI s.d9.d9.2.1,vI s.d9.d9.2.2.1,vI s.d9.d9.d3.1,vI s.d9.d9.d4.1,vI s.d9.d9.d5.1,vI s.d9.d9.d6]),(.ptr b1 0,.box [vI s.d9.d5.1,vI s.d9.d6.1])])) (λb=>(.ret,λg=>([(8,vB b.1)],[(.ptr b3 0,.box [vI b.2.2.1,vI b.d3.1]),(.ptr b2 0,.box [vI b.d4.1,vI b.d5.1,vI b.d6.1,vI b.d7.1,vI b.d8.1,vI b.d9.1,vI b.d9.2.1,vI b.d9.2.2.1,vI b.d9.d3.1,vI b.d9.d4.1])]))) [] (λsa ga _ ho=>?_) λgb=>?_
 . refine run 4 ?_;refine zax [4] Z ?_;refine glb (sa.d9.d5.1,sa.d9.d6.1,()) 3 ?_;refine gcl ho λyc hk ho=>?_;refine wbr ho (λhc ho=>?_) λhc ho=>?_
   . refine gcl ho λyf hl ho=>?_;refine gct ho (λhd ho=>?_) λhd ho=>?_
     . refine run 7 ?_;refine zax [0,1,1000004,1000006,1000007,1000009] Z ?_ (hdi:=rdists rfl (rowns rfl) (.c (.o (j:=3) rfl rfl) (.c (.o (j:=2) rfl rfl) (.c (.o (j:=1) rfl rfl) (.c (.o (j:=0) rfl rfl) .n)))) rfl);refine glb (sa.2.1,yc,(sa.d3.1,sa.d4.1,sa.d5.1,sa.d6.1,sa.d7.1,sa.d8.1,()),sa.d9.1,sa.d9.2.1,()) 0 ?_;refine glb (sa.d9.d5.1,sa.d9.d6.1,()) 3 ?_;exact lv [] [1,2] ho
     . refine gct ho (λhe ho=>?_) λhe ho=>?_
       . refine run 1 ?_;refine zax [0,1,1000004,1000006,1000007,1000009] Z ?_ (hdi:=rdists rfl (rowns rfl) (.c (.o (j:=3) rfl rfl) (.c (.o (j:=2) rfl rfl) (.c (.o (j:=1) rfl rfl) (.c (.o (j:=0) rfl rfl) .n)))) rfl);refine glb (sa.2.1,sa.2.2.1,(sa.d3.1,sa.d4.1,sa.d5.1,sa.d6.1,sa.d7.1,sa.d8.1,()),sa.d9.1,sa.d9.2.1,()) 0 ?_;refine glb (sa.d9.d5.1,sa.d9.d6.1,()) 3 ?_;exact lv [] [1,2] ho
       . refine glb (sa.d9.d5.1,sa.d9.d6.1,()) 3 ?_;refine gcl ho λyd hm ho=>?_;refine gal λba=>?_;refine gfz 1 zaX yd.1 0 [12] ?_;refine wbr ho (λhf ho=>?_) λhf ho=>?_
         . refine gk ?_;refine run 1 ?_;refine zax [0,1,1000004,1000006,1000007,1000009] Z ?_ (hdi:=rdists rfl (rowns rfl) (.c (.o (j:=3) rfl rfl) (.c (.o (j:=2) rfl rfl) (.c (.o (j:=1) rfl rfl) (.c (.o (j:=0) rfl rfl) .n)))) rfl);refine glb (sa.2.1,sa.2.2.1,(sa.d3.1,sa.d4.1,sa.d5.1,sa.d6.1,sa.d7.1,sa.d8.1,()),sa.d9.1,sa.d9.2.1,()) 0 ?_;refine glb (sa.d9.d5.1,sa.d9.d6.1,()) 3 ?_;exact lv [] [1,2] ho
         . refine gct ho (λhg ho=>?_) λhg ho=>?_
           . refine run 1 ?_;refine zax [0,1,1000004,1000006,1000007,1000009] Z ?_ (hdi:=rdists rfl (rowns rfl) (.c (.o (j:=3) rfl rfl) (.c (.o (j:=2) rfl rfl) (.c (.o (j:=1) rfl rfl) (.c (.o (j:=0) rfl rfl) .n)))) rfl);refine glb (sa.2.1,sa.2.2.1,(sa.d3.1,sa.d4.1,sa.d5.1,sa.d6.1,sa.d7.1,sa.d8.1,()),sa.d9.1,sa.d9.2.1,()) 0 ?_;refine glb (sa.d9.d5.1,sa.d9.d6.1,()) 3 ?_;exact lv [] [1,2] ho
           . refine run 18 ?_;refine zjU (R:=zC) (a:=(sa.d3.1,sa.d4.1,sa.d5.1,sa.d6.1,sa.d7.1,sa.d8.1,())) (off:=2) 0 (λ_ h=>by cases h<;>rfl) iu' zb2 Og (.n rfl) rfl rfl (.t rfl) rfl ?_;refine gcl ho λya hn ho=>?_;refine run 1 ?_;refine zgr (off:=2) (es':=[vI ya.1,vI ya.2.1,vI ya.2.2.1,vI ya.d3.1,vI ya.d4.1,vI ya.d5.1]) 0 iu' rfl zb2 Og (.n rfl) rfl rfl (.t rfl) (.t rfl) Om ?_;refine run 1 ?_;refine zax [1,6] Z ?_;exact lv [] [0,1,2,3] ho
   . refine gk ?_;refine gct ho (λhh ho=>?_) λhh ho=>?_
     . refine run 1 ?_;refine zax [0,1,1000004,1000006,1000007,1000009] Z ?_ (hdi:=rdists rfl (rowns rfl) (.c (.o (j:=3) rfl rfl) (.c (.o (j:=2) rfl rfl) (.c (.o (j:=1) rfl rfl) (.c (.o (j:=0) rfl rfl) .n)))) rfl);refine glb (sa.2.1,sa.2.2.1,(sa.d3.1,sa.d4.1,sa.d5.1,sa.d6.1,sa.d7.1,sa.d8.1,()),sa.d9.1,sa.d9.2.1,()) 0 ?_;refine glb (sa.d9.d5.1,sa.d9.d6.1,()) 3 ?_;exact lv [] [1,2] ho
     . refine glb (sa.d9.d5.1,sa.d9.d6.1,()) 3 ?_;refine gcl ho λye hp ho=>?_;refine gal λbb=>?_;refine gfz 1 zaX ye.1 0 [12] ?_;refine wbr ho (λhi ho=>?_) λhi ho=>?_
       . refine gk ?_;refine run 1 ?_;refine zax [0,1,1000004,1000006,1000007,1000009] Z ?_ (hdi:=rdists rfl (rowns rfl) (.c (.o (j:=3) rfl rfl) (.c (.o (j:=2) rfl rfl) (.c (.o (j:=1) rfl rfl) (.c (.o (j:=0) rfl rfl) .n)))) rfl);refine glb (sa.2.1,sa.2.2.1,(sa.d3.1,sa.d4.1,sa.d5.1,sa.d6.1,sa.d7.1,sa.d8.1,()),sa.d9.1,sa.d9.2.1,()) 0 ?_;refine glb (sa.d9.d5.1,sa.d9.d6.1,()) 3 ?_;exact lv [] [1,2] ho
       . refine gct ho (λhj ho=>?_) λhj ho=>?_
         . refine run 1 ?_;refine zax [0,1,1000004,1000006,1000007,1000009] Z ?_ (hdi:=rdists rfl (rowns rfl) (.c (.o (j:=3) rfl rfl) (.c (.o (j:=2) rfl rfl) (.c (.o (j:=1) rfl rfl) (.c (.o (j:=0) rfl rfl) .n)))) rfl);refine glb (sa.2.1,sa.2.2.1,(sa.d3.1,sa.d4.1,sa.d5.1,sa.d6.1,sa.d7.1,sa.d8.1,()),sa.d9.1,sa.d9.2.1,()) 0 ?_;refine glb (sa.d9.d5.1,sa.d9.d6.1,()) 3 ?_;exact lv [] [1,2] ho
         . refine run 18 ?_;refine zjU (R:=zC) (a:=(sa.d3.1,sa.d4.1,sa.d5.1,sa.d6.1,sa.d7.1,sa.d8.1,())) (off:=2) 0 (λ_ h=>by cases h<;>rfl) iu' zb2 Og (.n rfl) rfl rfl (.t rfl) rfl ?_;refine gcl ho λyb hr ho=>?_;refine run 1 ?_;refine zgr (off:=2) (es':=[vI yb.1,vI yb.2.1,vI yb.2.2.1,vI yb.d3.1,vI yb.d4.1,vI yb.d5.1]) 0 iu' rfl zb2 Og (.n rfl) rfl rfl (.t rfl) (.t rfl) Om ?_;refine run 1 ?_;refine zax [1,6] Z ?_;exact lv [] [0,1,2,3] ho
 . exact rv ho⟩
instance i60 {d c e a stops_4}:FI ktab 60 (zch d c e a stops_4) [.val zbI d,.val (ze zT) c,.val zb1 e,vI a,.val (ze (zi .i64)) stops_4] (λout=>[.row zgE out.1,wI out.2]):=⟨λout ho=>by
 delta zch at ho;refine fn λ_ _=>?_;refine gnr zgE ?_;refine gcl ho λy1 hy1 ho=>?_;refine gct ho (λhq2 ho=>?_) λhq2 ho=>?_
 . refine gnr zgE ?_;exact we ho
 . obtain ⟨x5,hx5,ho⟩:=bnd ho;refine gal λb6=>?_;refine gnr zgE ?_;obtain ⟨x7,hx7,ta,ha,ho⟩:=zge ho;refine gl2 ha ho [12,14,41,42] [] [1,0] (λs g=>([(15,.raw (gh g 0)),(43,vI s.2.1)],[(.ptr b6 0,.box [vI s.2.2.1,vI s.d3]),(gh g 0,.row zgE s.1)])) (λb=>(.exit 0,λg=>([(15,.raw (gh g 0))],[(gh g 0,.row zgE b.1)]))) (λb=>(.ret,λg=>([(10,.raw (gh g 0)),(11,vI b.2.1)],[(gh g 0,.row zgE b.1)]))) [.nsz] (λsa ga _ ho=>?_) (λba ho gb=>?_) λbb ho gb=>?_
   . refine gct ho (λhc ho=>?_) λhc ho=>?_
     . obtain ⟨xa,hg,ho⟩:=bnd ho;refine glb (sa.2.2.1,sa.d3,()) 0 ?_;obtain ⟨pa,hd,ho⟩:=bnd ho;refine run 1 ?_;refine zem (zb7 (n:=48) hd rfl) ?_;refine gcl ho λya hh ho=>?_;refine gal λbc=>?_;refine gal λbd=>?_;refine gfz 1 zgE ya.1 1 [18] ?_;refine gfz 1 zx ya.2.1 0 [19] ?_;refine wbr ho (λhe ho=>?_) λhe ho=>?_
       . refine gk ?_;refine gnr zgE ?_;exact lv [.nsz] [0] ho
       . refine gct ho (λhf ho=>?_) λhf ho=>?_
         . refine gnr zgE ?_;exact lv [.nsz] [0] ho
         . obtain ⟨xb,hi,ho⟩:=bnd ho;refine gap λva=>?_;exact lv [va] [1,0] ho
     . exact lv [gh ga 0] [1] ho
   . exact we ho
   . exact rv ho⟩
instance i61 {a field_1}:FI ktab 61 (zaZ a field_1) [.val (ze zgE) a,.val (rFn ktab Leg Int (λx=>[.val zgE x]) (λy=>[.val (zi .i64) y])) field_1] (λout=>[.row (zi .i64) out]):=⟨λout ho=>by
 delta zaZ at ho;refine fn λ_ _=>?_;refine gnr (zi .i64) ?_;refine gnr (zi .i64) ?_;obtain ⟨ta,ha,ho⟩:=bnd ho;refine glp ha [1,8,9] [] [0] (λs g=>([(5,.raw (gh g 0)),(10,vI s.2)],[(gh g 0,.row (zi .i64) s.1)])) (λb=>(.exit 0,λg=>([(5,.raw (gh g 0))],[(gh g 0,.row (zi .i64) b)]))) [.nsz] (λs7 g8 _ ho=>?_) λga=>?_
 . refine gct ho (λhq9 ho=>?_) λhq9 ho=>?_
   . obtain ⟨xa,hd,ho⟩:=bnd ho;refine gal λba=>?_;refine gfz 1 zgE xa 0 [7] ?_;obtain ⟨ya,hc,ho⟩:=bnd ho;refine gcv hc ?_;obtain ⟨xb,he,ho⟩:=bnd ho;refine gap λva=>?_;exact lv [va] [0] ho
   . exact lv [gh g8 0] [0] ho
 . exact we ho⟩
instance i62 {x_0}:FI ktab 62 (ze3 x_0) [.val zgE x_0] (λout=>[wI out]):=fw
instance i20 {d b e a stops_4}:FI ktab 20 (zb5 d b e a stops_4) [.val zbI d,.val (ze zT) b,.val zb1 e,vI a,.val (ze (zi .i64)) stops_4] (λout=>[.row (zi .i64) out.1,wI out.2]):=⟨λout ho=>by
 delta zb5 at ho;refine fn λ_ _=>?_;refine gnr (zi .i64) ?_;refine gcl ho λy1 hy1 ho=>?_;intro v2;show zr ..;refine gct ho (λhq3 ho=>?_) λhq3 ho=>?_
 . refine gnr (zi .i64) ?_;exact we ho
 . obtain ⟨y4,hy4,ho⟩:=bnd ho;refine run 4 ?_;refine zhj (i61.ok _ hy4) (.r zdI .n) rfl (.n rfl) rfl rfl rfl .f (.c (.r 0 (.t rfl) rfl) (.c (.o (.fv (zhN (λx y hf=>i62.ok _ hf) rfl))) .n)) ?_;intro v5;exact we ho⟩
instance i108 {a c c_2}:FI ktab 108 (zbu a c c_2) [.val zbI a,.val zdP c,.val zb0 c_2] (λout=>[.row (zi .i64) out.1,.row (zi .i64) out.2.1,wB out.2.2]):=⟨λout ho=>by
 delta zbu at ho;refine fn λ_ _=>?_;refine gnr (zi .i64) ?_;refine gnr (zi .i64) ?_;refine gcl ho λy1 hy1 ho=>?_;obtain ⟨c9,hc9,ho⟩:=bnd ho;refine run 8 ?_;refine gcx c9 [3,4,5,9,10] [0,1] (λt=>(.normal,λ_=>([(58,vB t)],[]))) ?_ λ_=>?_
 . have ho:=hc9;refine wbr ho (λha ho=>?_) λha ho=>?_
   . exact lv [] [0,1] ho
   . refine gcl ho λyb hu ho=>?_;refine wbr ho (λhc ho=>?_) λhc ho=>?_
     . exact lv [] [0,1] ho
     . refine wbr ho (λhd ho=>?_) λhd ho=>?_
       . exact lv [] [0,1] ho
       . obtain ⟨xa,hv,ho⟩:=bnd ho;refine wbr ho (λhe ho=>?_) λhe ho=>?_
         . exact lv [] [0,1] ho
         . obtain ⟨xb,hw,ho⟩:=bnd ho;exact lv [] [0,1] ho
 . refine gct ho (λhf ho=>?_) λhf ho=>?_
   . refine gnr (zi .i64) ?_;refine gnr (zi .i64) ?_;refine run 2 ?_;cases ho; exact zfr (zds (.inr rfl) (.r 1 rfl rfl (.r 0 rfl rfl (.v rfl .n))) Oa)
   . obtain ⟨ta,hg,ho⟩:=bnd ho;refine gl2 hg ho [3,4,5,9,10,60,61] [] [] (λs g=>([(62,vI s)],[])) (λb=>(.exit 0,λg=>([],[]))) (λb=>(.ret,λg=>([(6,.raw (gh g 0)),(7,.raw (gh g 1)),(8,vB b.2.2)],[(gh g 0,.row (zi .i64) b.1),(gh g 1,.row (zi .i64) b.2.1)]))) [] (λsa gb _ ho=>?_) (λba ho ga=>?_) λbb ho ga=>?_
     . refine gct ho (λhh ho=>?_) λhh ho=>?_
       . obtain ⟨xd,hy,ho⟩:=bnd ho;refine gcl ho λyc hz ho=>?_;refine wbr ho (λhi ho=>?_) λhi ho=>?_
         . refine gk ?_;refine gnr (zi .i64) ?_;refine gnr (zi .i64) ?_;exact lv [.nsz,.nsz] [1,0] ho
         . refine wbr ho (λhj ho=>?_) λhj ho=>?_
           . obtain ⟨xe,hA,ho⟩:=bnd ho;refine wbr ho (λhk ho=>?_) λhk ho=>?_
             . refine gk ?_;refine gnr (zi .i64) ?_;refine gnr (zi .i64) ?_;exact lv [.nsz,.nsz] [1,0] ho
             . obtain ⟨xf,hB,ho⟩:=bnd ho;refine gcl ho λyd hC ho=>?_;refine gct ho (λhl ho=>?_) λhl ho=>?_
               . refine gnr (zi .i64) ?_;refine gnr (zi .i64) ?_;exact lv [.nsz,.nsz] [1,0] ho
               . exact we ho
           . obtain ⟨xg,hD,ho⟩:=bnd ho;refine gcl ho λye hE ho=>?_;refine gct ho (λhm ho=>?_) λhm ho=>?_
             . refine gnr (zi .i64) ?_;refine gnr (zi .i64) ?_;exact lv [.nsz,.nsz] [1,0] ho
             . exact we ho
       . exact lv [] [] ho
     . refine gcl ho λya hF ho=>?_;intro vc;show zr ..;obtain ⟨ca,hn,ho⟩:=bnd ho;refine run 8 ?_;refine gcx ca [5,9,14] [0] (λt=>(.normal,λ_=>([(116,vB t)],[]))) ?_ λ_=>?_
       . have ho:=hn;refine wbr ho (λhp ho=>?_) λhp ho=>?_
         . exact lv [] [0] ho
         . exact lv [] [0] ho
       . refine gct ho (λhr ho=>?_) λhr ho=>?_
         . refine gnr (zi .i64) ?_;refine gnr (zi .i64) ?_;refine run 2 ?_;cases ho; exact zfr (zds (.inr rfl) (.r 1 rfl rfl (.r 0 rfl rfl (.v rfl .n))) Oa)
         . obtain ⟨xh,hG,ho⟩:=bnd ho;refine gmk λva=>?_;refine run 1 ?_;obtain ⟨xi,hH,ho⟩:=bnd ho;refine gmk λvb=>?_;obtain ⟨tb,hs,ho⟩:=bnd ho;refine glp hs [5,9,15,16,121,122] [] [0,1,2] (λs g=>([(123,vI s.1)],[(vb,.row (zi .i64) s.2.1),(va,.row (zi .i64) s.2.2),(vc,.row (zi .i64) ya.1)])) (λb=>(.exit 2,λg=>([],[(vb,.row (zi .i64) b.1),(va,.row (zi .i64) b.2)]))) [] (λsb gc _ ho=>?_) λgd=>?_
           . refine gct ho (λht ho=>?_) λht ho=>?_
             . obtain ⟨xj,hI,xk,hJ,xl,hK,ho⟩:=zsK ho;refine run 23 ?_;refine zax [6,11] Z ?_;obtain ⟨xm,hL,xn,hM,xo,hN,ho⟩:=zsK ho;obtain ⟨xp,hO,ho⟩:=bnd ho;exact lv [] [0,1,2] ho
             . exact lv [] [0,1] ho
           . refine run 1 ?_;refine zax [6] Z ?_;obtain ⟨xq,hP,ho⟩:=bnd ho;refine run 12 ?_;cases ho; exact zfr (zds (.inr rfl) (.r 1 rfl rfl (.r 0 rfl rfl (.v rfl .n))) Oa)
     . cases ho; exact id (zds (.inr rfl) (.r 0 rfl rfl (.r 1 rfl rfl (.v rfl .n))) Oa)⟩
end Go.Ai.TabYtfamdelkpempgaaGreat
namespace Go.Ai.TabYtfamdelkpempgaaGreat
open Go Go.Ai Go.Ai.Sx Go.Proofs
attribute [local irreducible] zr
set_option maxRecDepth 100000
set_option maxHeartbeats 4000000
instance i50 {c l_1}:FI ktab 50 (zcR c l_1) [.val zbI c,.val zdP l_1] (λout=>[.val (zeU zk) out.1,wB out.2]):=⟨λout ho=>by
 delta zcR at ho;refine fn λ_ _=>?_;refine run 4 ?_;refine zal rfl (.n rfl) rfl (e:=.val (zeU zk) Oe) (λz fr h s=>⟨_,rfl,zce⟩) ?_;obtain ⟨c4,hc4,ho⟩:=bnd ho;refine run 4 ?_;refine gcx c4 [2,3] [] (λt=>(.normal,λ_=>([(18,vB t)],[]))) ?_ λ_=>?_
 . exact we hc4
 . refine gct ho (λhq8 ho=>?_) λhq8 ho=>?_
   . refine run 2 ?_;refine zal rfl (.n rfl) rfl (e:=.val (zeU zk) Oe) (λz fr h s=>⟨_,rfl,zce⟩) ?_;exact we ho
   . refine run 4 ?_;refine zku (R:=zk) zCn (.n rfl) rfl rfl rfl (.p (.t rfl) rfl (.z (λ_=>zzY znil rfl rfl) (.z (λ_=>zzY znil rfl rfl) (.n rfl)))) ?_;refine xbo λb9=>?_;refine gcl ho λyb hg ho=>?_;obtain ⟨ta,hd,ho⟩:=bnd ho;refine gl2 hd ho [2,3,6,23] [] [0] (λs g=>([(24,vI s.1)],[(.ptr b9 0,.box [.val (ze zT) l_1.1.1,.val (ze (zi .i64)) l_1.1.2.1,.val (ze (zi .i64)) l_1.1.2.2.1,.val (ze zT) l_1.2.1.1,.val (ze (zi .i64)) l_1.2.1.2.1,.val (ze (zi .i64)) l_1.2.1.2.2.1,vI l_1.2.2.1.1,vI l_1.2.2.1.2.1,vI l_1.2.2.1.2.2.1,vI l_1.2.2.1.2.2.2.1,vI l_1.2.2.1.2.2.2.2.1,vI l_1.2.2.1.2.2.2.2.2.1,vI l_1.2.2.1.2.2.2.2.2.2.1,vI l_1.2.2.1.2.2.2.2.2.2.2.1,vI l_1.2.2.1.2.2.2.2.2.2.2.2.1,.val (ze (zi .i64)) l_1.2.2.1.2.2.2.2.2.2.2.2.2.1,vI l_1.d3.1,vI l_1.d4.1,.val (ze (zi .i64)) s.2.1,.val (ze (zi .i64)) s.2.2.1,.val (ze (zi .i64)) s.d3.1,.val (ze (zi .i64)) s.d4])])) (λb=>(.exit 0,λg=>([],[(.ptr b9 0,.box [.val (ze zT) l_1.1.1,.val (ze (zi .i64)) l_1.1.2.1,.val (ze (zi .i64)) l_1.1.2.2.1,.val (ze zT) l_1.2.1.1,.val (ze (zi .i64)) l_1.2.1.2.1,.val (ze (zi .i64)) l_1.2.1.2.2.1,vI l_1.2.2.1.1,vI l_1.2.2.1.2.1,vI l_1.2.2.1.2.2.1,vI l_1.2.2.1.2.2.2.1,vI l_1.2.2.1.2.2.2.2.1,vI l_1.2.2.1.2.2.2.2.2.1,vI l_1.2.2.1.2.2.2.2.2.2.1,vI l_1.2.2.1.2.2.2.2.2.2.2.1,vI l_1.2.2.1.2.2.2.2.2.2.2.2.1,.val (ze (zi .i64)) l_1.2.2.1.2.2.2.2.2.2.2.2.2.1,vI l_1.d3.1,vI l_1.d4.1,.val (ze (zi .i64)) b.1,.val (ze (zi .i64)) b.2.1,.val (ze (zi .i64)) b.2.2.1,.val (ze (zi .i64)) b.d3])]))) (λb=>(.ret,λg=>([(4,.val (zeU zk) b.1),(5,vB b.2.1)],[]))) [] (λsa gb _ ho=>?_) (λba ho ga=>?_) λbb ho ga=>?_
     . refine gct ho (λhe ho=>?_) λhe ho=>?_
       . obtain ⟨xa,hh,ho⟩:=bnd ho;refine gal λbc=>?_;refine gfz 2 zb0 xa 0 [8] ?_;refine gcl ho λya hi ho=>?_;intro va vb;show zr ..;obtain ⟨xb,ha,ho⟩:=bnd ho;refine run 6 ?_;refine zsJ ia' rfl ha (.n rfl) rfl rfl (.t rfl) (.t rfl) ?_;refine zem (zix 0 [37] rfl rfl ⟨rfl,trivial⟩) ?_;refine zn3 (es':=[.val (ze zT) l_1.1.1,.val (ze (zi .i64)) l_1.1.2.1,.val (ze (zi .i64)) l_1.1.2.2.1,.val (ze zT) l_1.2.1.1,.val (ze (zi .i64)) l_1.2.1.2.1,.val (ze (zi .i64)) l_1.2.1.2.2.1,vI l_1.2.2.1.1,vI l_1.2.2.1.2.1,vI l_1.2.2.1.2.2.1,vI l_1.2.2.1.2.2.2.1,vI l_1.2.2.1.2.2.2.2.1,vI l_1.2.2.1.2.2.2.2.2.1,vI l_1.2.2.1.2.2.2.2.2.2.1,vI l_1.2.2.1.2.2.2.2.2.2.2.1,vI l_1.2.2.1.2.2.2.2.2.2.2.2.1,.val (ze (zi .i64)) l_1.2.2.1.2.2.2.2.2.2.2.2.2.1,vI l_1.d3.1,vI l_1.d4.1,.val (ze (zi .i64)) (cond (sa.1==0) ya.1 sa.2.1),.val (ze (zi .i64)) (cond (sa.1==1) ya.1 sa.2.2.1),.val (ze (zi .i64)) sa.d3.1,.val (ze (zi .i64)) sa.d4]) 1 (U27).sz rfl (zws ha Og) (by rcases ix2 ha with e_ | e_<;>rw [e_]<;>rfl) (.n rfl) rfl rfl (.t rfl) (.t rfl) rfl rfl ?_;obtain ⟨xd,hc,ho⟩:=bnd ho;refine run 2 ?_;refine zsJ ia' rfl hc (.n rfl) rfl rfl (.t rfl) (.t rfl) ?_;refine zem (zix 0 [38] rfl rfl ⟨rfl,trivial⟩) ?_;refine zn3 (es':=[.val (ze zT) l_1.1.1,.val (ze (zi .i64)) l_1.1.2.1,.val (ze (zi .i64)) l_1.1.2.2.1,.val (ze zT) l_1.2.1.1,.val (ze (zi .i64)) l_1.2.1.2.1,.val (ze (zi .i64)) l_1.2.1.2.2.1,vI l_1.2.2.1.1,vI l_1.2.2.1.2.1,vI l_1.2.2.1.2.2.1,vI l_1.2.2.1.2.2.2.1,vI l_1.2.2.1.2.2.2.2.1,vI l_1.2.2.1.2.2.2.2.2.1,vI l_1.2.2.1.2.2.2.2.2.2.1,vI l_1.2.2.1.2.2.2.2.2.2.2.1,vI l_1.2.2.1.2.2.2.2.2.2.2.2.1,.val (ze (zi .i64)) l_1.2.2.1.2.2.2.2.2.2.2.2.2.1,vI l_1.d3.1,vI l_1.d4.1,.val (ze (zi .i64)) (cond (sa.1==0) ya.1 sa.2.1),.val (ze (zi .i64)) (cond (sa.1==1) ya.1 sa.2.2.1),.val (ze (zi .i64)) (cond (sa.1==0) ya.2.1 sa.d3.1),.val (ze (zi .i64)) (cond (sa.1==1) ya.2.1 sa.d4)]) 0 (U27).sz rfl (zws hc Og) (by rcases ix2 hc with e_ | e_<;>rw [e_]<;>rfl) (.n rfl) rfl rfl (.t rfl) (.t rfl) rfl rfl ?_
         refine gct ho (λhf ho=>?_) λhf ho=>?_
         . refine run 2 ?_;refine zal rfl (.n rfl) rfl (e:=.val (zeU zk) Oe) (λz fr h s=>⟨_,rfl,zce⟩) ?_;exact we ho
         . exact lv [] [0] ho
       . exact lv [] [0] ho
     . refine run 6 ?_;cases ho;refine zlK (zdH (R:=zk) (a:=(((l_1.1.1,l_1.1.2.1,l_1.1.2.2.1,()),(l_1.2.1.1,l_1.2.1.2.1,l_1.2.1.2.2.1,()),(l_1.2.2.1.1,l_1.2.2.1.2.1,l_1.2.2.1.2.2.1,l_1.2.2.1.2.2.2.1,l_1.2.2.1.2.2.2.2.1,l_1.2.2.1.2.2.2.2.2.1,l_1.2.2.1.2.2.2.2.2.2.1,l_1.2.2.1.2.2.2.2.2.2.2.1,l_1.2.2.1.2.2.2.2.2.2.2.2.1,l_1.2.2.1.2.2.2.2.2.2.2.2.2.1,()),l_1.d3.1,l_1.d4.1,()),[ba.1,ba.2.1],[ba.2.2.1,ba.d3],())) 0 [6,49,4] (zj (zj (zj (zm rfl) (zj (zm rfl) (zj (zm rfl) za1 rfl) rfl) rfl) (zj (zj (zm rfl) (zj (zm rfl) (zj (zm rfl) za1 rfl) rfl) rfl) (zj (zj (zm rfl) (zj (zm rfl) (zj (zm rfl) (zj (zm rfl) (zj (zm rfl) (zj (zm rfl) (zj (zm rfl) (zj (zm rfl) (zj (zm rfl) (zj (zm rfl) za1 rfl) rfl) rfl) rfl) rfl) rfl) rfl) rfl) rfl) rfl) (zj (zm rfl) (zj (zm rfl) za1 rfl) rfl) rfl) rfl) rfl) (zj (zje rfl) (zj (zje rfl) za1 rfl) rfl) rfl) rfl rfl ⟨rfl,rfl,rfl,trivial⟩) ?_;refine zlK (zkE (n:=4) rfl) ?_;exact zfr (zds (.inr rfl) (.v rfl (.v rfl .n)) Oa)
     . exact rv ho⟩
instance i51 {home_0}:FI ktab 51 (zgi home_0) [vB home_0] (λout=>[wI out]):=fw
instance i15 {a b home_2}:FI ktab 15 (zaa a b home_2) [.val zbI a,.val zdP b,vB home_2] (λout=>[.val (ze (zi .i64)) out.1,wI out.2]):=⟨λout ho=>by
 delta zaa at ho;refine fn λ_ _=>?_;refine run 4 ?_;refine zdF (.n rfl) rfl rfl (.nil (R:=zi .i64)) ?_;refine gcl ho λy1 hy1 ho=>?_;refine gct ho (λhq2 ho=>?_) λhq2 ho=>?_
 . refine run 2 ?_;refine zdF (.n rfl) rfl rfl (.nil (R:=zi .i64)) ?_;exact we ho
 . refine gcl ho λy6 hy6 ho=>?_;obtain ⟨p7,hp7,ho⟩:=bnd ho;refine zem (zb7 (n:=18) hp7 rfl) ?_;obtain ⟨x8,hx8,ho⟩:=bnd ho;refine run 2 ?_;refine zcs ia' hx8 (.n rfl) rfl rfl (.t rfl) (.t rfl) ?_;exact we ho⟩
instance i79 {length_0}:FI ktab 79 (zd0 length_0) [vI length_0] (λout=>[.val zbI out.1,.val zdP out.2]):=⟨λout ho=>by
 delta zd0 at ho;refine fn λ_ _=>?_;refine gal λb1=>?_;refine gal λb2=>?_;refine gal λb3=>?_;refine gfz 1 zbI (([(((0,0,()),1,[((0,Oc,()):zl)],0,()):zcw),((((length_0,0,()):Spot),1,[((0,Od,()):zl)],0,()):zcw)],[((0,1,[],8000,0,()):Rail)],()):Plan) 0 [4] ?_;refine gal λb4=>?_;refine gfz 1 zb1 ((1000,1000,8000,2000,2000,1000000,0,0,0,[1000],()):Train) 0 [5] ?_;obtain ⟨x5,hx5,ho⟩:=bnd ho;refine gal λb6=>?_;refine gfz 1 zb0 (([((0,Oc,()):zL)],[1000,x5,length_0],[0,20,0],()):Course) 0 [6] ?_;refine run 6 ?_;obtain ⟨x7,hx7,ho⟩:=bnd ho;refine gal λb8=>?_;refine gfz 1 zb0 (([((0,Od,()):zL)],[1000,x7,length_0],[0,10,0],()):Course) 0 [7] ?_;exact we ho⟩
instance i33:FI ktab 33 zfx [] (λout=>[wB out]):=⟨λout ho=>by
 delta zfx at ho;refine fn λ_ _=>?_;refine gcl ho λy1 hy1 ho=>?_;refine gal λb2=>?_;refine gal λb3=>?_;refine gfz 1 zbI y1.1 1 [1] ?_;refine gfz 1 zdP y1.2 0 [2] ?_;refine gcl ho λy4 hy4 ho=>?_;intro v5;show zr ..;refine gcl ho λy6 hy6 ho=>?_;obtain ⟨ca,ha,ho⟩:=bnd ho;refine run 7 ?_;refine gcx ca [] [0] (λt=>(.normal,λ_=>([(0,vB t)],[]))) ?_ λ_=>?_
 . have ho:=ha;refine zax [22] Z ?_;refine wbr ho (λhc ho=>?_) λhc ho=>?_
   . refine wbr ho (λhd ho=>?_) λhd ho=>?_
     . refine wbr ho (λhe ho=>?_) λhe ho=>?_
       . refine wbr ho (λhf ho=>?_) λhf ho=>?_
         . obtain ⟨xa,hg,xb,hh,xd,hi,ho⟩:=zsK ho;exact lv [] [0] ho
         . exact lv [] [0] ho
       . exact lv [] [0] ho
     . exact lv [] [0] ho
   . exact lv [] [0] ho
 . exact rv ho⟩
end Go.Ai.TabYtfamdelkpempgaaGreat