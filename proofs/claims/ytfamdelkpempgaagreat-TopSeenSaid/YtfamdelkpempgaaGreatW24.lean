/- Written by program: walks through functions. -/
import Derived.Test.YtfamdelkpempgaaGreatW11
import Derived.Test.YtfamdelkpempgaaGreatW17
import Derived.Test.YtfamdelkpempgaaGreatW23
import Derived.Test.YtfamdelkpempgaaGreatW21
import Derived.Test.YtfamdelkpempgaaGreatW19
import Derived.Test.YtfamdelkpempgaaGreatW22
import Derived.Test.YtfamdelkpempgaaGreatW20
import Derived.Test.YtfamdelkpempgaaGreatW16
set_option linter.unusedSimpArgs false
set_option linter.unusedVariables false
set_option linter.unusedSectionVars false
open Option renaming some→Ob,none→Oe
open Bool renaming false→Oc,true→Od
namespace Go.Ai.TabYtfamdelkpempgaaGreat
open Go Go.Ai Go.Ai.Sx Go.Proofs
attribute [local irreducible] zr
set_option maxRecDepth 100000
set_option maxHeartbeats 4000000
instance i135 {a p_1}:FI ktab 135 (zaJ a p_1) [.val za5 a,.val (zaO (zaO z7)) p_1] (λout=>[wB out]):=⟨λout ho=>by
 delta zaJ at ho;refine fn λ_ _=>?_;obtain ⟨c7,hc7,ho⟩:=bnd ho;refine run 7 ?_;refine gcx c7 [1,2] [] (λt=>(.normal,λ_=>([(20,vB t)],[]))) ?_ λ_=>?_
 . exact we hc7
 . refine gct ho (λhc ho=>?_) λhc ho=>?_
   . exact we ho
   . obtain ⟨xa,hg,ho⟩:=bnd ho;refine gal λba=>?_;refine zgu 0 ia' rfl Om Oa (.n rfl) rfl rfl (.t rfl) (.t rfl) Om ?_;refine zem (zjd (R:=zE) 0 [4] Oa Oa rfl rfl ⟨rfl,trivial⟩) ?_;obtain ⟨ca,hd,ho⟩:=bnd ho;refine run 2 ?_;refine gcx ca [] [] (λt=>(.normal,λ_=>([(3,vB t)],[]))) ?_ λ_=>?_
     . have ho:=hd;refine gcl ho λya hh ho=>?_;obtain ⟨xb,he,ho⟩:=bnd ho;refine zcs ia' he (.n rfl) rfl rfl (.t rfl) (.t rfl) ?_;refine gcl ho λyb hi ho=>?_;refine gcl ho λyc hj ho=>?_;refine wbr ho (λha ho=>?_) λha ho=>?_
       . exact we ho
       . refine gcl ho λyd hk ho=>?_;obtain ⟨xd,hf,ho⟩:=bnd ho;refine zcs ia' hf (.g rfl rfl (gf0 ha)) rfl rfl (.t rfl) (.t rfl) ?_;exact we ho
     . exact rv ho⟩
instance i81 {d_0}:FI ktab 81 (zbj d_0) [.val (zaO z7) d_0] (λout=>[wB out]):=⟨λout ho=>by
 delta zbj at ho;refine fn λ_ _=>?_;obtain ⟨c4,hc4,ho⟩:=bnd ho;refine run 6 ?_;refine gcx c4 [] [] (λt=>(.normal,λ_=>([(2,vB t)],[]))) ?_ λ_=>?_
 . have ho:=hc4;refine wbr ho (λhb5 ho=>?_) λhb5 ho=>?_
   . refine run 14 ?_;refine zhM (X:=Turnback) (Y:=Bool) (λx=>[.val za5 x]) (λy=>[.val zaS y]) (f:=(λx=>zaJ x d_0)) (λx y hf=>i135.ok _ hf) rfl (.g rfl rfl (gt1 hb5)) rfl rfl .n (.c (.t rfl) .n) ?_;exact we ho
   . exact we ho
 . exact rv ho⟩
instance i34 {d_0}:FI ktab 34 (zci d_0) [.val zlR d_0] (λout=>[.val (zeU z7) out.1,wI out.2]):=⟨λout ho=>by
 delta zci at ho;refine fn λ_ _=>?_;refine run 3 ?_;refine zal rfl (.n rfl) rfl (e:=.val (zeU z7) Oe) (λz fr h s=>⟨_,rfl,zce⟩) ?_;refine gcl ho λy1 hy1 ho=>?_;refine gct ho (λhq2 ho=>?_) λhq2 ho=>?_
 . refine run 2 ?_;refine zal rfl (.n rfl) rfl (e:=.val (zeU z7) Oe) (λz fr h s=>⟨_,rfl,zce⟩) ?_;exact we ho
 . refine run 4 ?_;refine zo8 zjD zz2 rfl (.n rfl) rfl rfl ?_;intro b3;refine zem (zt4 zw (zi .i64)) ?_;refine zem (znX (n:=24) rfl) ?_;refine zku (R:=zkH) zBu (.n rfl) rfl rfl rfl (.p (.t rfl) rfl (.z (λ_=>zrg) (.z (λ_=>znil) (.p (.t rfl) rfl (.n rfl))))) ?_;refine xbo λb4=>?_;refine zem (zfJ (q:=9) 0 rfl rfl rfl) ?_;refine zem (zdT (zhG 2 zE)) ?_;refine zem (zlP (q:=11) 1 rfl rfl rfl) ?_;obtain ⟨ta,ha,ho⟩:=bnd ho;refine glp ha [1,4,29,30] [] [1,2,3,0] (λs g=>([(31,vI s.1)],[(.ptr b4 0,.box [.val (ze zbZ) d_0.1.1,.val (ze zdO) d_0.1.2.1,.val (ze zdP) d_0.2.1.1,.val (ze (zi .i64)) d_0.2.1.2.1,.val (ze (zi .i64)) d_0.2.1.2.2.1,.val (ze zc6) d_0.2.2.1,vI d_0.d3.1,vI d_0.d4.1,.val (ze za5) d_0.d5.1,.raw (gh g 0),.val (ze z8) ([]),.raw (.map b3)]),(.undef,mpack (zi .i64) (zjM ([]:List (zw×List Int)) ([])) ([]:List (zw×List Int))),(.map b3,.mp zbi zjD (zjM ([]:List (zw×List Int)) ([]))),(gh g 0,.row (zhG 2 zE) s.2)])) (λb=>(.exit 0,λg=>([],[(.ptr b4 0,.box [.val (ze zbZ) d_0.1.1,.val (ze zdO) d_0.1.2.1,.val (ze zdP) d_0.2.1.1,.val (ze (zi .i64)) d_0.2.1.2.1,.val (ze (zi .i64)) d_0.2.1.2.2.1,.val (ze zc6) d_0.2.2.1,vI d_0.d3.1,vI d_0.d4.1,.val (ze za5) d_0.d5.1,.raw (gh g 0),.val (ze z8) ([]),.raw (.map b3)]),(.undef,mpack (zi .i64) (zjM ([]:List (zw×List Int)) ([])) ([]:List (zw×List Int))),(.map b3,.mp zbi zjD (zjM ([]:List (zw×List Int)) ([]))),(gh g 0,.row (zhG 2 zE) b)]))) [.nsz] (λsb gb _ ho=>?_) λgc=>?_
   . refine gct ho (λhc ho=>?_) λhc ho=>?_
     . obtain ⟨xb,hl,ho⟩:=bnd ho;refine gal λbb=>?_;refine gfz 1 zdP xb 0 [6] ?_;refine run 3 ?_;refine zp1 (R:=zE) (x:=(([],[],[],()),[],())) ia' (zc:=[.nsz,.nsz,.nsz,.nsz,.nsz,.nsz,.nsz,.nsz]) Z (zarr (λ_=>zpair (zpair znil (zpair znil (zpair znil zunit rfl) rfl) rfl) (zpair znil zunit rfl) rfl) rfl) Oa (.n rfl) rfl rfl ?_;intro ba;refine run 8 ?_;refine zmy (R:=zb0) (zc:=[.nsz,.nsz,.nsz,.nsz,.nsz,.nsz]) ia' Z Om (.n rfl) rfl rfl (.c (.t rfl) (.c (.t rfl) .n)) Om ?_;obtain ⟨tc,hd,ho⟩:=bnd ho;refine glp hd [1,4,6,7,29,30,31,39] [1,4] [0,2,3,1,4] (λs g=>([(40,vI s.1)],[((.slice ba 0 2 4 (Ob 2)),.row zE s.2),(.undef,mpack (zi .i64) (zjM ([]:List (zw×List Int)) ([])) ([]:List (zw×List Int))),(.map b3,.mp zbi zjD (zjM ([]:List (zw×List Int)) ([])))])) (λb=>(.exit 2,λg=>([],[((.slice ba 0 2 4 (Ob 2)),.row zE b),(.undef,mpack (zi .i64) (zjM ([]:List (zw×List Int)) ([])) ([]:List (zw×List Int))),(.map b3,.mp zbi zjD (zjM ([]:List (zw×List Int)) ([])))]))) [] (λsc gd _ ho=>?_) λge=>?_
       . refine gct ho (λhe ho=>?_) λhe ho=>?_
         . obtain ⟨xd,hm,ho⟩:=bnd ho;refine gal λbc=>?_;refine gfz 2 zb0 xd 0 [9] ?_;refine gcl ho λyb hn ho=>?_;obtain ⟨xe,hp,ho⟩:=bnd ho;exact lv [] [0,1,2,3,4] ho
         . exact lv [] [0,1,2,3,4] ho
       . refine zax [4,5] Z ?_;refine run 5 ?_;refine zso 0 (λ_ h=>by cases h<;>rfl) ia' rfl (.n rfl) rfl rfl (.t rfl) ?_;obtain ⟨xf,hr,ho⟩:=bnd ho;refine gap λva=>?_;refine run 2 ?_;refine zdU 4 0 (zCm).sz rfl rfl Og (.n rfl) rfl rfl (.t rfl) (.t rfl) Om ?_;exact lv [va] [4,2,3,0] ho
     . exact lv [gh gb 0] [0,1,2,3] ho
   . obtain ⟨yc,hf,ho⟩:=bnd ho;refine run 4 ?_;refine zuY (i81.ok _ hf) (.v zgs .n) rfl (.n rfl) rfl rfl rfl .f (.c (zwh (R:=z7) (a:=(((d_0.1.1,d_0.1.2.1,()),(d_0.2.1.1,d_0.2.1.2.1,d_0.2.1.2.2.1,()),d_0.2.2.1,d_0.d3.1,d_0.d4.1,d_0.d5.1,()),ta,[],([]:List (zw×List Int)),())) 0 (.t rfl) rfl (zm6 9 (zwO zzX) (zm6 1 (zAD 3 rfl) (zm6 1 (zwO (zm rfl)) (zm6 1 (zAE 2 1 rfl rfl) zy7))))) .n) ?_;show zr ..;refine gct ho (λhg ho=>?_) λhg ho=>?_
     . refine run 2 ?_;refine zal rfl (.n rfl) rfl (e:=.val (zeU z7) Oe) (λz fr h s=>⟨_,rfl,zce⟩) ?_;exact we ho
     . refine gcl ho λya hs ho=>?_;intro vc;show zr ..;refine gct ho (λhh ho=>?_) λhh ho=>?_
       . refine run 3 ?_;refine zal rfl (.n rfl) rfl (e:=.val (zeU z7) Oe) (λz fr h s=>⟨_,rfl,zce⟩) ?_;exact we ho
       . refine gct ho (λhi ho=>?_) λhi ho=>?_
         . refine run 2 ?_;refine zal rfl (.n rfl) rfl (e:=.val (zeU z7) Oe) (λz fr h s=>⟨_,rfl,zce⟩) ?_;exact we ho
         . refine run 7 ?_;refine zem (zix 0 [85,12,90,94] rfl rfl ⟨rfl,rfl,rfl,rfl,trivial⟩) ?_;obtain ⟨tb,hj,ho⟩:=bnd ho;refine glp hj [4,97,98] [0,3] [1,2,0,3] (λs g=>([(99,vI s.1)],[(.undef,mpack (zi .i64) (zjM s.2 (untup (gh g 0))) s.2),(.map b3,.mp zbi zjD (zjM s.2 (untup (gh g 0))))])) (λb=>(.exit 4,λg=>([],[(.undef,mpack (zi .i64) (zjM b (untup (gh g 0))) b),(.map b3,.mp zbi zjD (zjM b (untup (gh g 0))))]))) [.tuple ([])] (λsa ga _ ho=>?_) λgf=>?_
           . refine gct ho (λhk ho=>?_) λhk ho=>?_
             . obtain ⟨xa,ht,ho⟩:=bnd ho;refine gal λbd=>?_;refine gfz 2 z8 xa 0 [15] ?_;refine gal λbe=>?_;refine gfz 1 zbi ((xa.1,xa.2.2.1,()):zw) 0 [16] ?_;refine run 1 ?_;refine zax [3] Z ?_;refine run 7 ?_;refine zy6 (R:=zi .i64) 1 0 zz2 (zt5 Z) rfl (λ_=>rfl) (λ_=>rfl) (λ_=>rfl) (.n rfl) rfl rfl (.t rfl) (.t rfl) ?_;intro hK131 vd;obtain ⟨xg,hu,ho⟩:=bnd ho;refine gap λvb=>?_;refine run 1 ?_;refine zem (zuU (n:=118) 0 rfl rfl) ?_;refine zt7 2 0 0 hK131 rfl rfl (.n rfl) rfl (.t rfl) (.t rfl) (.t rfl) rfl rfl rfl rfl rfl ?_;exact lv [.tuple (hset sa.2 (untup (gh ga 0)) ((xa.1,xa.2.2.1,()):zw) vb)] [0,1,2,3] ho
             . exact lv [.tuple (untup (gh ga 0))] [0,1,2,3] ho
           . refine run 6 ?_;cases ho;refine zlK (zrC 0 0 rfl rfl rfl rfl) ?_;refine zlK (zkF 0 0 (q:=11) [] rfl rfl rfl rfl Om trivial) ?_;refine zlK (zeS 1 0 (q:=9) [] rfl rfl rfl rfl Om trivial) ?_;refine zlK (zdH (R:=z7) (a:=(((d_0.1.1,d_0.1.2.1,()),(d_0.2.1.1,d_0.2.1.2.1,d_0.2.1.2.2.1,()),d_0.2.2.1,d_0.d3.1,d_0.d4.1,d_0.d5.1,()),ta,ya.1,tb,())) 0 [4,121,2] (zj (zj (zj (zm rfl) (zj (zm rfl) za1 rfl) rfl) (zj (zj (zm rfl) (zj (zm rfl) (zj (zm rfl) za1 rfl) rfl) rfl) (zj (zm rfl) (zj (zm rfl) (zj (zm rfl) (zj (zm rfl) za1 rfl) rfl) rfl) rfl) rfl) rfl) (zj (zm rfl) (zj (zm rfl) (zj (zm rfl) za1 rfl) rfl) rfl) rfl) rfl rfl ⟨rfl,rfl,rfl,trivial⟩) ?_;refine zlK (zkE (n:=2) rfl) ?_;exact zfr (zds (.inr rfl) (.v rfl (.v rfl .n)) Oa)⟩
instance i10 {d_0}:FI ktab 10 (zdA d_0) [.val zlR d_0] (λout=>[.val (ze z8) out.1,wI out.2]):=⟨λout ho=>by
 delta zdA at ho;refine fn λ_ _=>?_;refine run 3 ?_;refine zdF (.n rfl) rfl rfl (.nil (R:=z8)) ?_;refine gcl ho λy1 hy1 ho=>?_;refine gct ho (λhq2 ho=>?_) λhq2 ho=>?_
 . refine run 3 ?_;refine zdF (.n rfl) rfl rfl (.nil (R:=z8)) ?_;exact we ho
 . obtain ⟨p3,hp3,ho⟩:=bnd ho;refine run 4 ?_;refine zem (zb7 (n:=14) hp3 rfl) ?_;exact we ho⟩
instance i84 {a trip_1}:FI ktab 84 (zbA a trip_1) [.val (zaO z7) a,vI trip_1] (λout=>[.val zE out]):=⟨λout ho=>by
 delta zbA at ho;refine fn λ_ _=>?_;refine gal λb1=>?_;obtain ⟨x2,hx2,ho⟩:=bnd ho;refine gal λb3=>?_;refine gfz 1 z8 x2 0 [5] ?_;refine gcl ho λy7 hy7 ho=>?_;obtain ⟨x8,hx8,x9,hx9,ho⟩:=zge ho;refine run 1 ?_;refine zcs ia' hx9 (.n rfl) rfl rfl (.t rfl) (.t rfl) ?_;exact we ho⟩
instance i86 {a c stop_2}:FI ktab 86 (zcy a c stop_2) [.val (zaO z7) a,.val zE c,vI stop_2] (λout=>[wI out]):=⟨λout ho=>by
 delta zcy at ho;refine fn λ_ _=>?_;obtain ⟨ta,ha,ho⟩:=bnd ho;refine gl2 ha ho [0,2,4,14,15] [] [] (λs g=>([(7,vI s.1),(16,vI s.2)],[])) (λb=>(.exit 0,λg=>([],[]))) (λb=>(.ret,λg=>([(6,vI b)],[]))) [] (λs8 g9 _ ho=>?_) (λba ho ga=>?_) λbb ho ga=>?_
 . refine gct ho (λhc ho=>?_) λhc ho=>?_
   . obtain ⟨xa,hd,ho⟩:=bnd ho;refine gal λbc=>?_;refine gfz 2 zT xa 0 [9] ?_;exact we ho
   . exact lv [] [] ho
 . exact we ho
 . exact rv ho⟩
instance i87 {a stop_1}:FI ktab 87 (zaU a stop_1) [.val zE a,vI stop_1] (λout=>[wI out]):=fw
theorem zgD {σ τ:Type} {step:σ->Use->Option (σ⊕τ)} {yv:zb} {K:σ⊕τ->List zb->Sx.Obj} (hcb:zra ktab yv (λx=>[.val zjJ x]) step K) {s_:σ} {d a out} (ho:zbB step s_ d a=Ob out) (γ0:List zb):zh1 ktab 83 [.raw yv,.val (zaO (zaO z7)) d,.val (zaO (zi .i64)) a] [(yv,K (.inl s_) γ0)] [] (λγ=>[(yv,K out (untup (gh γ 0)))]):=by
 refine zeT (F:=Tryz.f83) Om Om Om (λC=>?_);delta zbB at ho;refine gcl ho λy4 hy4 ho=>?_;obtain ⟨x5,hx5,ho⟩:=bnd ho;refine gal λb6=>?_;refine gfz 1 zE y4 0 [4] ?_;refine gcl ho λy7 hy7 ho=>?_;obtain ⟨ta,hc,ho⟩:=bnd ho;refine gl2 hc ho [1,4,5,23] [] [0] (λs g=>([(0,.raw yv),(24,vI s.1)],[(yv,K s.2 (untup (gh g 0)))])) (λb=>(.exit 0,λg=>([],[(yv,K b (untup (gh g 0)))]))) (λb=>(.ret,λg=>([],[(yv,K b (untup (gh g 0)))]))) [.tuple γ0] (λsa ga _ ho=>?_) (λba ho gb=>?_) λbb ho gb=>?_
 . refine gct ho (λhd ho=>?_) λhd ho=>?_
   . refine gcl ho λya hm ho=>?_;refine gcl ho λyb hn ho=>?_;obtain ⟨ca,he,ho⟩:=bnd ho;refine run 5 ?_;refine gcx ca [0,1,4,5,6,7,8,23,24] [] (λt=>(.normal,λg=>([(71,vB t.1)],[(yv,K t.2 (untup (gh g 0)))]))) ?_ λgd=>?_
     . have ho:=he;refine wbr ho (λhf ho=>?_) λhf ho=>?_
       . obtain ⟨xb,hp,ho⟩:=bnd ho;refine wbr ho (λha ho=>?_) λha ho=>?_
         . obtain ⟨xd,hr,ho⟩:=bnd ho;refine gcl ho λyc hs ho=>?_;obtain ⟨xe,ht,sb,hs206,ho⟩:=zge ho;refine run 9 ?_;refine zem (znV (K:=K) 0 (zja hs206) rfl rfl) ?_;obtain ⟨yd,hg,ho⟩:=bnd ho;refine zkA [0] [] (λ_ h=>by cases h<;>exact ⟨by kernel_rfl,by kernel_rfl⟩) hcb hg rfl rfl rfl Oa (.g rfl rfl (gt1 ha)) rfl rfl rfl (.t rfl) (.c (.t rfl) .n) ?_;intro vb;exact lv [.tuple vb] [0] ho
         . exact lv [.tuple (untup (gh ga 0))] [0] ho
       . exact lv [.tuple (untup (gh ga 0))] [0] ho
     . refine gct ho (λhh ho=>?_) λhh ho=>?_
       . exact lv [.tuple (untup (gh gd 0))] [0] ho
       . obtain ⟨xf,hu,tb,hi,ho⟩:=zge ho;refine gl2 hi ho [0,1,4,5,6,23,24,78,79] [] [0] (λs g=>([(80,vI s.1)],[(yv,K s.2 (untup (gh g 0)))])) (λb=>(.exit 2,λg=>([],[(yv,K b (untup (gh g 0)))]))) (λb=>(.ret,λg=>([],[(yv,K b (untup (gh g 0)))]))) [.tuple (untup (gh gd 0))] (λsc ge _ ho=>?_) (λbc ho gc=>?_) λbd ho gc=>?_
         . refine gct ho (λhj ho=>?_) λhj ho=>?_
           . obtain ⟨xa,hv,ho⟩:=bnd ho;refine gal λbe=>?_;refine gfz 1 zT xa 0 [10] ?_;obtain ⟨xg,hw,ho⟩:=bnd ho;refine gcl ho λye hy ho=>?_;obtain ⟨sd,hs251,ho⟩:=bnd ho;refine run 2 ?_;refine zem (znV (K:=K) 0 (zja hs251) rfl rfl) ?_;obtain ⟨yf,hk,ho⟩:=bnd ho;refine zkA [0] [] (λ_ h=>by cases h<;>exact ⟨by kernel_rfl,by kernel_rfl⟩) hcb hk rfl rfl rfl Oa (.n rfl) rfl rfl rfl (.t rfl) (.c (.t rfl) .n) ?_;intro va;refine gct ho (λhl ho=>?_) λhl ho=>?_
             . exact lv [.tuple va] [0] ho
             . exact lv [.tuple va] [0] ho
           . exact lv [.tuple (untup (gh ge 0))] [0] ho
         . exact lv [.tuple (untup (gh gc 0))] [0] ho
         . cases ho; exact id (lf [.tuple (untup (gh gc 0))] [0])
   . exact lv [.tuple (untup (gh ga 0))] [0] ho
 . cases ho; exact id (za7 [0] [.tuple (untup (gh gb 0))] (.inl rfl) .n rfl Oa)
 . cases ho; exact id (za7 [0] [.tuple (untup (gh gb 0))] (.inr rfl) .n rfl Oa)
theorem zgZ {σ τ:Type} {step:σ->Use->Option (σ⊕τ)} {yv:zb} {K:σ⊕τ->List zb->Sx.Obj} (hcb:zra ktab yv (λx=>[.val zjJ x]) step K) {s_:σ} {b a out} (ho:zbB step s_ b a=Ob out) (γ0:List zb):zh1 ktab 83 [.raw yv,.val (zaO (zaO z7)) b,.val (zaO (zi .i64)) a] [(yv,K (.inl s_) γ0)] [] (λγ=>[(yv,K out γ)]):=
 zmB (zgD hcb ho γ0)
instance i37 {a trip_1}:FI ktab 37 (zdm a trip_1) [.val (zaO z7) a,vI trip_1] (λout=>[.val (zq8 83 [] [.val (zaO (zaO z7)) out.1,.val (zaO (zi .i64)) out.2]) ()]):=⟨λout ho=>by
 delta zdm at ho;refine fn λ_ _=>?_;refine run 4 ?_;refine zal rfl (.n rfl) rfl (e:=.raw .nfz) (λz fr h s=>⟨_,rfl,by simp only [TE.ok]; rfl⟩) ?_;refine run 3 ?_;refine zmz (.n rfl) rfl rfl .n (.c (.t rfl) (.c (.t rfl) .n)) ?_;exact we ho⟩
instance i82 {seq_1}:FI ktab 82 (zaL seq_1) [.raw .nsz,.val (zq8 83 [] [.val (zaO (zaO z7)) seq_1.1,.val (zaO (zi .i64)) seq_1.2]) ()] (λout=>[.row zjJ out]):=⟨λout ho=>by
 delta zaL at ho;refine fn λ_ _=>?_;refine run 2 ?_;refine zem (zsD (n:=0) rfl) ?_;refine xbo λb1=>?_;refine zem (zfJ (q:=0) 0 rfl rfl rfl) ?_;refine zem (zdT zjJ) ?_;refine gnr zjJ ?_;obtain ⟨ta,ha,ho⟩:=bnd ho;refine run 7 ?_;refine zo7 (σ:=List Use) (τ:=Unit) (X:=Use) (ins:=(λx=>[.val zjJ x])) (zAK (λs g=>[(.nsz,.row zjJ ([])),(.ptr b1 0,.box [.raw (gh g 0)]),(gh g 0,.row zjJ s)]) (λ_ _=>[])) (λ_=>Oe) (s0:=[]) (r:=ta) [.nsz] [0,2,1] [] rfl (.t rfl) rfl rfl Oa (λ_=>rfl) (λyv K hcb γ=>zgZ hcb ha γ) ?_ ?_
 . clear ho ha;intro s9 ga x2 r15 ho C;refine gal λba=>?_;refine gfz 1 zjJ x2 0 [5] ?_;refine zfp (λfr h s=>And.intro rfl (Exists.intro _ (Exists.intro _ (And.intro s (λC=>?_)))));obtain ⟨xa,hc,ho⟩:=bnd ho;refine gap λva=>?_;refine zdU 2 0 (U40).sz rfl rfl Og (.n rfl) rfl rfl (.t rfl) (.t rfl) Om ?_;cases ho; exact zfp (λfr h s=>And.intro rfl (Exists.intro [va] (s.pick [1,2,0] trivial rfl Oa)))
 . clear ha;have hz:=bnd ho;clear ho;obtain ⟨bb,h19,ho⟩:=hz;have h19:=zja h19;subst h19;intro gb;refine gwk [1,2,4,6] [0,1,2] ?_;exact we ho⟩
instance i36 {seq_0}:FI ktab 36 (zb9 seq_0) [.val (zq8 83 [] [.val (zaO (zaO z7)) seq_0.1,.val (zaO (zi .i64)) seq_0.2]) ()] (λout=>[.row zjJ out]):=⟨λout ho=>by
 delta zb9 at ho;refine fn λ_ _=>?_;refine gnr zjJ ?_;obtain ⟨y1,hy1,ho⟩:=bnd ho;refine run 4 ?_;refine zhj (i82.ok _ hy1) (.r (zcD zdI (zcD zdI (zcD zdI zhi))) .n) rfl (.n rfl) rfl rfl rfl .f (.c (.o .nilr) (.c (.o (.t rfl)) .n)) ?_;intro v2;exact we ho⟩
instance i11 {a trip_1}:FI ktab 11 (zd1 a trip_1) [.val zlR a,vI trip_1] (λout=>[.row zjJ out.1,wI out.2]):=⟨λout ho=>by
 delta zd1 at ho;refine fn λ_ _=>?_;refine gnr zjJ ?_;refine gcl ho λy1 hy1 ho=>?_;obtain ⟨c6,hc6,ho⟩:=bnd ho;refine run 8 ?_;refine gcx c6 [1,6,7] [0] (λt=>(.normal,λ_=>([(29,vB t)],[]))) ?_ λ_=>?_
 . have ho:=hc6;refine wbr ho (λhb7 ho=>?_) λhb7 ho=>?_
   . exact lv [] [0] ho
   . refine wbr ho (λhb8 ho=>?_) λhb8 ho=>?_
     . obtain ⟨p9,hp9,ho⟩:=bnd ho;refine run 9 ?_;refine zem (zb7 (n:=20) hp9 rfl) ?_;refine gcl ho λya he ho=>?_;exact lv [] [0] ho
     . exact lv [] [0] ho
 . refine gct ho (λha ho=>?_) λha ho=>?_
   . refine gnr zjJ ?_;exact we ho
   . refine gct ho (λhc ho=>?_) λhc ho=>?_
     . refine gnr zjJ ?_;exact we ho
     . obtain ⟨pa,hd,ho⟩:=bnd ho;refine run 5 ?_;refine zem (zb7 (n:=33) hd rfl) ?_;refine gcl ho λyb hf ho=>?_;refine gcl ho λyc hg ho=>?_;intro va;exact we ho⟩
end Go.Ai.TabYtfamdelkpempgaaGreat
namespace Go.Ai.TabYtfamdelkpempgaaGreat
open Go Go.Ai Go.Ai.Sx Go.Proofs
attribute [local irreducible] zr
set_option maxRecDepth 100000
set_option maxHeartbeats 4000000
instance i9:FI ktab 9 zcI [] (λout=>[wB out]):=fw
instance i14 {d c a length_3}:FI ktab 14 (zd2 d c a length_3) [.val zbI d,.val (ze zT) c,vI a,vI length_3] (λout=>[.row ze7 out.1,wI out.2]):=⟨λout ho=>by
 delta zd2 at ho;refine fn λ_ _=>?_;refine gnr ze7 ?_;refine gcl ho λy1 hy1 ho=>?_;obtain ⟨ca,ha,ho⟩:=bnd ho;refine run 8 ?_;refine gcx ca [1,2,3,10] [0] (λt=>(.normal,λ_=>([(47,vB t)],[]))) ?_ λ_=>?_
 . have ho:=ha;refine wbr ho (λhc ho=>?_) λhc ho=>?_
   . exact lv [] [0] ho
   . obtain ⟨pa,hd,ho⟩:=bnd ho;refine run 6 ?_;refine zem (zb7 (n:=27) hd rfl) ?_;refine gcl ho λya hp ho=>?_;refine wbr ho (λhe ho=>?_) λhe ho=>?_
     . exact lv [] [0] ho
     . refine wbr ho (λhf ho=>?_) λhf ho=>?_
       . exact lv [] [0] ho
       . refine wbr ho (λhg ho=>?_) λhg ho=>?_
         . exact lv [] [0] ho
         . obtain ⟨pb,hh,ho⟩:=bnd ho;refine run 15 ?_;refine zem (zb7 (n:=43) hh rfl) ?_;refine gcl ho λyb hr ho=>?_;exact lv [] [0] ho
 . refine gct ho (λhi ho=>?_) λhi ho=>?_
   . refine gnr ze7 ?_;exact we ho
   . refine gnr ze7 ?_;obtain ⟨ta,hj,ho⟩:=bnd ho;refine glp hj [2,3,10,48,49] [] [0] (λs g=>([(12,.raw (gh g 0)),(13,vI s.2.1),(50,vI s.2.2)],[(gh g 0,.row ze7 s.1)])) (λb=>(.exit 0,λg=>([(12,.raw (gh g 0))],[(gh g 0,.row ze7 b)]))) [.nsz] (λsa ga _ ho=>?_) λgb=>?_
     . refine gct ho (λhk ho=>?_) λhk ho=>?_
       . obtain ⟨xa,hs,ho⟩:=bnd ho;refine gal λba=>?_;refine gfz 1 zT xa 0 [15] ?_;obtain ⟨pc,hl,ho⟩:=bnd ho;refine run 4 ?_;refine zem (zb7 (n:=54) hl rfl) ?_;obtain ⟨xb,ht,ho⟩:=bnd ho;refine gct ho (λhm ho=>?_) λhm ho=>?_
         . exact lv [gh ga 0] [0] ho
         . refine gct ho (λhn ho=>?_) λhn ho=>?_
           . obtain ⟨xd,hu,ho⟩:=bnd ho;refine gap λva=>?_;exact lv [va] [0] ho
           . obtain ⟨xe,hv,ho⟩:=bnd ho;refine gap λvb=>?_;exact lv [vb] [0] ho
       . exact lv [gh ga 0] [0] ho
     . exact we ho⟩
instance i4 {d c a behind_3}:FI ktab 4 (zfy d c a behind_3) [.val zlR d,vI c,vI a,vI behind_3] (λout=>[wB out]):=⟨λout ho=>by
 delta zfy at ho;refine fn λ_ _=>?_;refine gcl ho λy1 hy1 ho=>?_;refine gct ho (λhq2 ho=>?_) λhq2 ho=>?_
 . exact we ho
 . refine gcl ho λy4 hy4 ho=>?_;obtain ⟨ca,ha,ho⟩:=bnd ho;refine run 8 ?_;refine gcx ca [1,2,3,4,9,10] [] (λt=>(.normal,λ_=>([(68,vB t)],[]))) ?_ λ_=>?_
   . exact we ha
   . refine gct ho (λhc ho=>?_) λhc ho=>?_
     . obtain ⟨cc,hd,ho⟩:=bnd ho;refine run 1 ?_;refine gcx cc [] [] (λt=>(.normal,λ_=>([(8,vB t)],[]))) ?_ λ_=>?_
       . exact we hd
       . exact rv ho
     . obtain ⟨xh,hs,ho⟩:=bnd ho;refine run 11 ?_;obtain ⟨xi,ht,ho⟩:=bnd ho;refine gcl ho λya hu ho=>?_;refine gal λba=>?_;refine gfz 1 zb0 ya 0 [11] ?_;obtain ⟨cd,he,ho⟩:=bnd ho;refine run 3 ?_;refine gcx cd [1,2,3,4,9,11] [] (λt=>(.normal,λ_=>([(107,vB t)],[]))) ?_ λ_=>?_
       . exact we he
       . refine gct ho (λhf ho=>?_) λhf ho=>?_
         . exact we ho
         . obtain ⟨xj,hv,ho⟩:=bnd ho;refine gcl ho λyc hw ho=>?_;intro vb;show zr ..;obtain ⟨xk,hy,xl,hz,ho⟩:=zge ho;refine run 22 ?_;obtain ⟨xm,hA,ho⟩:=bnd ho;refine gcl ho λyd hB ho=>?_;refine gcl ho λyb hC ho=>?_;intro va;show zr ..;obtain ⟨ce,hg,ho⟩:=bnd ho;refine run 8 ?_;refine gcx ce [1,2,9,11,12,14,16] [0,1] (λt=>(.normal,λ_=>([(173,vB t)],[]))) ?_ λ_=>?_
           . have ho:=hg;refine wbr ho (λhh ho=>?_) λhh ho=>?_
             . exact lv [] [0,1] ho
             . refine wbr ho (λhi ho=>?_) λhi ho=>?_
               . exact lv [] [0,1] ho
               . refine wbr ho (λhj ho=>?_) λhj ho=>?_
                 . exact lv [] [0,1] ho
                 . refine wbr ho (λhk ho=>?_) λhk ho=>?_
                   . exact lv [] [0,1] ho
                   . exact lv [] [0,1] ho
           . refine gct ho (λhl ho=>?_) λhl ho=>?_
             . exact we ho
             . refine run 2 ?_;refine zax [3] Z ?_;obtain ⟨xa,hm,ho⟩:=bnd ho;refine run 3 ?_;refine zmv 1 (λ_ h=>by cases h<;>rfl) iu' zlQ (zfq hm).2.2.2 (.n rfl) rfl rfl (.t rfl) rfl ?_;obtain ⟨xb,hD,xd,hE,ho⟩:=zge ho;refine run 12 ?_;obtain ⟨xe,hF,xf,hG,xg,hH,ho⟩:=zsK ho;refine gal λbb=>?_;refine gfz 1 zjJ ((xa.1,w64 (xb.d3.1+xd),w64 (w64 (xe.d3.1+xf)-xg),()):Use) 0 [18] ?_;obtain ⟨ta,hn,ho⟩:=bnd ho;refine gl2 hn ho [16,18] [] [0] (λs g=>([(19,vI s)],[(va,.row zjJ yb.1)])) (λb=>(.exit 0,λg=>([],[]))) (λb=>(.ret,λg=>([(8,vB b)],[]))) [] (λsa gb _ ho=>?_) (λbc ho ga=>?_) λbd ho ga=>?_
               . refine gct ho (λhp ho=>?_) λhp ho=>?_
                 . refine run 4 ?_;refine zax [3] Z ?_;obtain ⟨xn,hI,ho⟩:=bnd ho;refine gct ho (λhr ho=>?_) λhr ho=>?_
                   . exact we ho
                   . exact lv [] [0] ho
                 . exact lv [] [] ho
               . exact we ho
               . exact rv ho⟩
end Go.Ai.TabYtfamdelkpempgaaGreat
namespace Go.Proofs.YtfamdelkpempgaaGreat
open Go Go.Ai Go.Ai.Sx Go.Ai.TabYtfamdelkpempgaaGreat
def zm7:zud (Day×Int×Int×Int×Unit):=zrd zlR (zrd (zi .i64) (zrd (zi .i64) (zrd (zi .i64) zBj)))
theorem zt8:znY Tryz.prog [33,3,3,3] zm7:=zgU o33 Z (zgU o3 Z (zgU o3 Z (zgU o3 Z zre)))
theorem zt9 {z:Store} {vs:List zb} {x:Day×Int×Int×Int×Unit} (h:zm7.rel z vs x):x.1.2.1.1.length<=9223372036854775807/\x.1.2.1.2.1.length<=9223372036854775807:=by
 obtain ⟨_,_,_,h1,_⟩:=h;obtain ⟨_,_,_,_,⟨_,_,_,hS,_⟩⟩:=h1.rel;obtain ⟨_,_,_,⟨_,_,h3⟩,⟨_,_,_,⟨_,_,h4⟩,_⟩⟩:=hS;exact ⟨h3.1,h4.1⟩
set_option maxRecDepth 100000 in
theorem zBO:(Rows.topSeenRow.inPlace==Tryz.prog.inPlace 4)=Od:=Z
set_option maxRecDepth 100000 in
theorem zBP:(Rows.topSeenRow.unfollowed==Tryz.prog.unfollowed 4)=Od:=Z
set_option maxRecDepth 100000 in
theorem zBQ:(Rows.topSeenRow.recurses==Tryz.prog.recurses 4)=Od:=Z
set_option maxRecDepth 100000 in
theorem zBR:(Rows.topSeenRow.named==Tryz.prog.varsNamed 4)=Od:=Z
set_option maxRecDepth 100000 in
theorem zBS:(Rows.topSeenRow.loops==(Tryz.f4.params.toList++Rows.topSeenSpec.plain.varTypes Tryz.prog).any (Tryz.prog.loopsFrom ·))=Od:=Z
set_option maxRecDepth 100000 in
theorem zBT:Rows.topSeenRow.wf (OpenSpec.ofChange Rows.topSeenSpec)=Od:=Z
set_option maxRecDepth 100000 in
theorem zBU:Tryz.f4.params.all (Tryz.prog.readableRec ·)=Od:=Z
set_option maxRecDepth 100000 in
theorem zBV:(Rows.topSeenRow.maps==(Tryz.f4.params.toList++Rows.topSeenSpec.plain.varTypes Tryz.prog).any (Tryz.prog.mapsRec ·))=Od:=Z
set_option maxRecDepth 100000 in
theorem zBW:(Rows.topSeenRow.ifaces==(Tryz.f4.params.toList++Rows.topSeenSpec.plain.varTypes Tryz.prog).any (Tryz.prog.ifacesRec ·))=Od:=Z
set_option maxRecDepth 100000 in
theorem zy8:joinedFacts Tryz.prog 4 Tryz.f4 Rows.topSeenSpec Rows.topSeenRow=Od:=by
 unfold joinedFacts;exact (zh3 (zh3 (zh3 (zh3 (zh3 (zh3 (zh3 (zh3 (zh3 (zh3 (zh3 (zh3 (zh3 (zh3 (zh3 (zh3 (zh3 (zh3 (zh3 (zh3 (zh3 (zh3 (zh3 (zh3 (zh3 (zh3 (zh3 (zh3 (zh3 (zh3 (zh3 zBT zsL) zz3) zBU) Z) rfl) zye) rfl) zyf) zBO) zBP) zBQ) zBR) zBV) zBW) Z) zBS) Z) Z) Z) Z) Z) zyg) rfl) zyh) zyi) zz4) zz5) Z) Z) Z) Z)
set_option maxRecDepth 100000 in
theorem seen_holds:Rows.TopSeenSaid:=
 OpenClaim.holds_of_wide 4 Tryz.f4 rfl rfl rfl rfl rfl rfl rfl ⟨rfl,rfl,rfl,rfl,rfl⟩ rfl rfl rfl rfl rfl Z Tryz.func4 zy8
  (of_decide_eq_true Z) (by unfold Func.isWrapper; first | (rw [if_pos (by decide +kernel)]; kernel_rfl) | (rw [if_neg (by decide +kernel)]; exact ⟨rfl,rfl⟩))
  (λos started H enc _=>by
   show ReturnsInHanded {} Tryz.checked os 4 .any (Rows.topSeenSpec.pre6 enc Tryz.prog Tryz.f4 Rows.topSeenRow.domain Oc) (Rows.topSeenSpec.post enc Tryz.prog Tryz.f4 Oc Od Oc Oc);refine returnsInHanded_of_change_shaped (C:=Tryz.checked) own started Z Tryz.func4
    (ChangeSpec.witness6 (enc:=enc) (C:=Tryz.checked) Oc ⟨#[],#[.agg #[.slice Oe 0 0,.slice Oe 0 0,.slice Oe 0 0,.slice Oe 0 0,.slice Oe 0 0,.slice Oe 0 0,.int .i64 0,.int .i64 0,.slice Oe 0 0],.int .i64 0,.int .i64 0,.int .i64 0],[]⟩ 4 Z Z Z Z) ?_
   intro W base args ds gs before hval hW _ _ hsh _;exact znZ (C:=Tryz.checked) zxs zsL rfl (tb:=4) Z Tryz.underlying4 (by rw [Tryz.params4]; decide +kernel) (λH ds hd=>by
    match ds,hd with
    | [_,_,_,_],_=>rfl) (by rw [Tryz.params4]; exact zt8)
    (zxq (S:=zm7) (zjY (zjY (zjY (zjY zxp)))) (λz vs x hx=>i4.ok _ (zwe x.1 x.2.1 x.2.2.1 x.d3.1 (zt9 hx).1 (zt9 hx).2))) (zvb hsh) hval hW)
end Go.Proofs.YtfamdelkpempgaaGreat