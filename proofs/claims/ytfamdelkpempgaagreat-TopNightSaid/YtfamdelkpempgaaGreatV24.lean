/- Written by program: walks through functions. -/
import Derived.Test.YtfamdelkpempgaaGreatV11
import Derived.Test.YtfamdelkpempgaaGreatV17
import Derived.Test.YtfamdelkpempgaaGreatV23
import Derived.Test.YtfamdelkpempgaaGreatV21
import Derived.Test.YtfamdelkpempgaaGreatV19
import Derived.Test.YtfamdelkpempgaaGreatV22
import Derived.Test.YtfamdelkpempgaaGreatV16
set_option linter.unusedSimpArgs false
set_option linter.unusedVariables false
set_option linter.unusedSectionVars false
open Option renaming some→Ob,none→Oe
open Bool renaming false→Oc,true→Od
namespace Go.Ai.TabYtfamdelkpempgaaGreat
open Go Go.Ai Go.Ai.Sx Go.Proofs
attribute [local irreducible] zp
set_option maxRecDepth 100000
set_option maxHeartbeats 4000000
instance i135 {a p_1}:FI ktab 135 (zaJ a p_1) [.val zat a,.val (zaP (zaP z8)) p_1] (λout=>[wB out]):=⟨λout ho=>by
 delta zaJ at ho;refine fn λ_ _=>?_;obtain ⟨c7,hc7,ho⟩:=bnd ho;refine run 7 ?_;refine gcx c7 [1,2] [] (λt=>(.normal,λ_=>([(20,vB t)],[]))) ?_ λ_=>?_
 . exact we hc7
 . refine gct ho (λhc ho=>?_) λhc ho=>?_
   . exact we ho
   . obtain ⟨xa,hg,ho⟩:=bnd ho;refine gal λba=>?_;refine zgq 0 ia' rfl Om Oa (.n rfl) rfl rfl (.t rfl) (.t rfl) Om ?_;refine zeF (zje (R:=zE) 0 [4] Oa Oa rfl rfl ⟨rfl,trivial⟩) ?_;obtain ⟨ca,hd,ho⟩:=bnd ho;refine run 2 ?_;refine gcx ca [] [] (λt=>(.normal,λ_=>([(3,vB t)],[]))) ?_ λ_=>?_
     . have ho:=hd;refine gcl ho λya hh ho=>?_;obtain ⟨xb,he,ho⟩:=bnd ho;refine zcu ia' he (.n rfl) rfl rfl (.t rfl) (.t rfl) ?_;refine gcl ho λyb hi ho=>?_;refine gcl ho λyc hj ho=>?_;refine wbr ho (λha ho=>?_) λha ho=>?_
       . exact we ho
       . refine gcl ho λyd hk ho=>?_;obtain ⟨xd,hf,ho⟩:=bnd ho;refine zcu ia' hf (.g rfl rfl (gf0 ha)) rfl rfl (.t rfl) (.t rfl) ?_;exact we ho
     . exact rv ho⟩
instance i81 {d_0}:FI ktab 81 (zbl d_0) [.val (zaP z8) d_0] (λout=>[wB out]):=⟨λout ho=>by
 delta zbl at ho;refine fn λ_ _=>?_;obtain ⟨c4,hc4,ho⟩:=bnd ho;refine run 6 ?_;refine gcx c4 [] [] (λt=>(.normal,λ_=>([(2,vB t)],[]))) ?_ λ_=>?_
 . have ho:=hc4;refine wbr ho (λhb5 ho=>?_) λhb5 ho=>?_
   . refine run 14 ?_;refine zhK (X:=Turnback) (Y:=Bool) (λx=>[.val zat x]) (λy=>[.val zaM y]) (f:=(λx=>zaJ x d_0)) (λx y hf=>i135.ok _ hf) rfl (.g rfl rfl (gt1 hb5)) rfl rfl .n (.c (.t rfl) .n) ?_;exact we ho
   . exact we ho
 . exact rv ho⟩
instance i34 {d_0}:FI ktab 34 (zci d_0) [.val zlQ d_0] (λout=>[.val (zeT z8) out.1,wI out.2]):=⟨λout ho=>by
 delta zci at ho;refine fn λ_ _=>?_;refine run 3 ?_;refine zak rfl (.n rfl) rfl (e:=.val (zeT z8) Oe) (λz fr h s=>⟨_,rfl,zcf⟩) ?_;refine gcl ho λy1 hy1 ho=>?_;refine gct ho (λhq2 ho=>?_) λhq2 ho=>?_
 . refine run 2 ?_;refine zak rfl (.n rfl) rfl (e:=.val (zeT z8) Oe) (λz fr h s=>⟨_,rfl,zcf⟩) ?_;exact we ho
 . refine run 4 ?_;refine zo5 zjE zz7 rfl (.n rfl) rfl rfl ?_;intro b3;refine zeF (zt1 zx (zi .i64)) ?_;refine zeF (znW (n:=24) rfl) ?_;refine zku (R:=zkH) zBF (.n rfl) rfl rfl rfl (.p (.t rfl) rfl (.z (λ_=>zq9) (.z (λ_=>znil) (.p (.t rfl) rfl (.n rfl))))) ?_;refine xbo λb4=>?_;refine zeF (zfE (q:=9) 0 rfl rfl rfl) ?_;refine zeF (zdS (zhF 2 zE)) ?_;refine zeF (zlP (q:=11) 1 rfl rfl rfl) ?_;obtain ⟨ta,ha,ho⟩:=bnd ho;refine glp ha [1,4,29,30] [] [1,2,3,0] (λs g=>([(31,vI s.1)],[(.ptr b4 0,.box [.val (zb zbh) d_0.1.1,.val (zb zc4) d_0.1.2.1,.val (zb zc5) d_0.2.1.1,.val (zb (zi .i64)) d_0.2.1.2.1,.val (zb (zi .i64)) d_0.2.1.2.2.1,.val (zb zb7) d_0.2.2.1,vI d_0.d3.1,vI d_0.d4.1,.val (zb zat) d_0.d5.1,.raw (gh g 0),.val (zb z7) ([]),.raw (.map b3)]),(.undef,mpack (zi .i64) (zjN ([]:List (zx×List Int)) ([])) ([]:List (zx×List Int))),(.map b3,.mp zbk zjE (zjN ([]:List (zx×List Int)) ([]))),(gh g 0,.row (zhF 2 zE) s.2)])) (λb=>(.exit 0,λg=>([],[(.ptr b4 0,.box [.val (zb zbh) d_0.1.1,.val (zb zc4) d_0.1.2.1,.val (zb zc5) d_0.2.1.1,.val (zb (zi .i64)) d_0.2.1.2.1,.val (zb (zi .i64)) d_0.2.1.2.2.1,.val (zb zb7) d_0.2.2.1,vI d_0.d3.1,vI d_0.d4.1,.val (zb zat) d_0.d5.1,.raw (gh g 0),.val (zb z7) ([]),.raw (.map b3)]),(.undef,mpack (zi .i64) (zjN ([]:List (zx×List Int)) ([])) ([]:List (zx×List Int))),(.map b3,.mp zbk zjE (zjN ([]:List (zx×List Int)) ([]))),(gh g 0,.row (zhF 2 zE) b)]))) [.nsz] (λsb gb _ ho=>?_) λgc=>?_
   . refine gct ho (λhc ho=>?_) λhc ho=>?_
     . obtain ⟨xb,hl,ho⟩:=bnd ho;refine gal λbb=>?_;refine gfz 1 zc5 xb 0 [6] ?_;refine run 3 ?_;refine zpV (R:=zE) (x:=(([],[],[],()),[],())) ia' (zc:=[.nsz,.nsz,.nsz,.nsz,.nsz,.nsz,.nsz,.nsz]) Z (zarr (λ_=>zpair (zpair znil (zpair znil (zpair znil zunit rfl) rfl) rfl) (zpair znil zunit rfl) rfl) rfl) Oa (.n rfl) rfl rfl ?_;intro ba;refine run 8 ?_;refine zmz (R:=zcb) (zc:=[.nsz,.nsz,.nsz,.nsz,.nsz,.nsz]) ia' Z Om (.n rfl) rfl rfl (.c (.t rfl) (.c (.t rfl) .n)) Om ?_;obtain ⟨tc,hd,ho⟩:=bnd ho;refine glp hd [1,4,6,7,29,30,31,39] [1,4] [0,2,3,1,4] (λs g=>([(40,vI s.1)],[((.slice ba 0 2 4 (Ob 2)),.row zE s.2),(.undef,mpack (zi .i64) (zjN ([]:List (zx×List Int)) ([])) ([]:List (zx×List Int))),(.map b3,.mp zbk zjE (zjN ([]:List (zx×List Int)) ([])))])) (λb=>(.exit 2,λg=>([],[((.slice ba 0 2 4 (Ob 2)),.row zE b),(.undef,mpack (zi .i64) (zjN ([]:List (zx×List Int)) ([])) ([]:List (zx×List Int))),(.map b3,.mp zbk zjE (zjN ([]:List (zx×List Int)) ([])))]))) [] (λsc gd _ ho=>?_) λge=>?_
       . refine gct ho (λhe ho=>?_) λhe ho=>?_
         . obtain ⟨xd,hm,ho⟩:=bnd ho;refine gal λbc=>?_;refine gfz 2 zcb xd 0 [9] ?_;refine gcl ho λyb hn ho=>?_;obtain ⟨xe,hp,ho⟩:=bnd ho;exact lv [] [0,1,2,3,4] ho
         . exact lv [] [0,1,2,3,4] ho
       . refine zax [4,5] Z ?_;refine run 5 ?_;refine zsj 0 (λ_ h=>by cases h<;>rfl) ia' rfl (.n rfl) rfl rfl (.t rfl) ?_;obtain ⟨xf,hr,ho⟩:=bnd ho;refine gap λva=>?_;refine run 2 ?_;refine zdT 4 0 (zCt).sz rfl rfl Og (.n rfl) rfl rfl (.t rfl) (.t rfl) Om ?_;exact lv [va] [4,2,3,0] ho
     . exact lv [gh gb 0] [0,1,2,3] ho
   . obtain ⟨yc,hf,ho⟩:=bnd ho;refine run 4 ?_;refine zuV (i81.ok _ hf) (.v zfQ .n) rfl (.n rfl) rfl rfl rfl .f (.c (zwg (R:=z8) (a:=(((d_0.1.1,d_0.1.2.1,()),(d_0.2.1.1,d_0.2.1.2.1,d_0.2.1.2.2.1,()),d_0.2.2.1,d_0.d3.1,d_0.d4.1,d_0.d5.1,()),ta,[],([]:List (zx×List Int)),())) 0 (.t rfl) rfl (zm6 9 (zwN zz0) (zm6 1 (zAN 3 rfl) (zm6 1 (zwN (zl rfl)) (zm6 1 (zAO 2 1 rfl rfl) zy9))))) .n) ?_;show zp ..;refine gct ho (λhg ho=>?_) λhg ho=>?_
     . refine run 2 ?_;refine zak rfl (.n rfl) rfl (e:=.val (zeT z8) Oe) (λz fr h s=>⟨_,rfl,zcf⟩) ?_;exact we ho
     . refine gcl ho λya hs ho=>?_;intro vc;show zp ..;refine gct ho (λhh ho=>?_) λhh ho=>?_
       . refine run 3 ?_;refine zak rfl (.n rfl) rfl (e:=.val (zeT z8) Oe) (λz fr h s=>⟨_,rfl,zcf⟩) ?_;exact we ho
       . refine gct ho (λhi ho=>?_) λhi ho=>?_
         . refine run 2 ?_;refine zak rfl (.n rfl) rfl (e:=.val (zeT z8) Oe) (λz fr h s=>⟨_,rfl,zcf⟩) ?_;exact we ho
         . refine run 7 ?_;refine zeF (ziw 0 [85,12,90,94] rfl rfl ⟨rfl,rfl,rfl,rfl,trivial⟩) ?_;obtain ⟨tb,hj,ho⟩:=bnd ho;refine glp hj [4,97,98] [0,3] [1,2,0,3] (λs g=>([(99,vI s.1)],[(.undef,mpack (zi .i64) (zjN s.2 (untup (gh g 0))) s.2),(.map b3,.mp zbk zjE (zjN s.2 (untup (gh g 0))))])) (λb=>(.exit 4,λg=>([],[(.undef,mpack (zi .i64) (zjN b (untup (gh g 0))) b),(.map b3,.mp zbk zjE (zjN b (untup (gh g 0))))]))) [.tuple ([])] (λsa ga _ ho=>?_) λgf=>?_
           . refine gct ho (λhk ho=>?_) λhk ho=>?_
             . obtain ⟨xa,ht,ho⟩:=bnd ho;refine gal λbd=>?_;refine gfz 2 z7 xa 0 [15] ?_;refine gal λbe=>?_;refine gfz 1 zbk ((xa.1,xa.2.2.1,()):zx) 0 [16] ?_;refine run 1 ?_;refine zax [3] Z ?_;refine run 7 ?_;refine zy8 (R:=zi .i64) 1 0 zz7 (zt2 Z) rfl (λ_=>rfl) (λ_=>rfl) (λ_=>rfl) (.n rfl) rfl rfl (.t rfl) (.t rfl) ?_;intro hK131 vd;obtain ⟨xg,hu,ho⟩:=bnd ho;refine gap λvb=>?_;refine run 1 ?_;refine zeF (zuR (n:=118) 0 rfl rfl) ?_;refine zt4 2 0 0 hK131 rfl rfl (.n rfl) rfl (.t rfl) (.t rfl) (.t rfl) rfl rfl rfl rfl rfl ?_;exact lv [.tuple (hset sa.2 (untup (gh ga 0)) ((xa.1,xa.2.2.1,()):zx) vb)] [0,1,2,3] ho
             . exact lv [.tuple (untup (gh ga 0))] [0,1,2,3] ho
           . refine run 6 ?_;cases ho;refine zlK (zrw 0 0 rfl rfl rfl rfl) ?_;refine zlK (zkF 0 0 (q:=11) [] rfl rfl rfl rfl Om trivial) ?_;refine zlK (zeR 1 0 (q:=9) [] rfl rfl rfl rfl Om trivial) ?_;refine zlK (zdI (R:=z8) (a:=(((d_0.1.1,d_0.1.2.1,()),(d_0.2.1.1,d_0.2.1.2.1,d_0.2.1.2.2.1,()),d_0.2.2.1,d_0.d3.1,d_0.d4.1,d_0.d5.1,()),ta,ya.1,tb,())) 0 [4,121,2] (zj (zj (zj (zl rfl) (zj (zl rfl) zaN rfl) rfl) (zj (zj (zl rfl) (zj (zl rfl) (zj (zl rfl) zaN rfl) rfl) rfl) (zj (zl rfl) (zj (zl rfl) (zj (zl rfl) (zj (zl rfl) zaN rfl) rfl) rfl) rfl) rfl) rfl) (zj (zl rfl) (zj (zl rfl) (zj (zl rfl) zaN rfl) rfl) rfl) rfl) rfl rfl ⟨rfl,rfl,rfl,trivial⟩) ?_;refine zlK (zkE (n:=2) rfl) ?_;exact zfo (zdv (.inr rfl) (.v rfl (.v rfl .n)) Oa)⟩
instance i10 {d_0}:FI ktab 10 (zct d_0) [.val zlQ d_0] (λout=>[.val (zb z7) out.1,wI out.2]):=⟨λout ho=>by
 delta zct at ho;refine fn λ_ _=>?_;refine run 3 ?_;refine zdG (.n rfl) rfl rfl (.nil (R:=z7)) ?_;refine gcl ho λy1 hy1 ho=>?_;refine gct ho (λhq2 ho=>?_) λhq2 ho=>?_
 . refine run 3 ?_;refine zdG (.n rfl) rfl rfl (.nil (R:=z7)) ?_;exact we ho
 . obtain ⟨p3,hp3,ho⟩:=bnd ho;refine run 4 ?_;refine zeF (zcY (n:=14) hp3 rfl) ?_;exact we ho⟩
instance i84 {a trip_1}:FI ktab 84 (zbB a trip_1) [.val (zaP z8) a,vI trip_1] (λout=>[.val zE out]):=⟨λout ho=>by
 delta zbB at ho;refine fn λ_ _=>?_;refine gal λb1=>?_;obtain ⟨x2,hx2,ho⟩:=bnd ho;refine gal λb3=>?_;refine gfz 1 z7 x2 0 [5] ?_;refine gcl ho λy7 hy7 ho=>?_;obtain ⟨x8,hx8,x9,hx9,ho⟩:=zgb ho;refine run 1 ?_;refine zcu ia' hx9 (.n rfl) rfl rfl (.t rfl) (.t rfl) ?_;exact we ho⟩
instance i86 {c a stop_2}:FI ktab 86 (zcA c a stop_2) [.val (zaP z8) c,.val zE a,vI stop_2] (λout=>[wI out]):=⟨λout ho=>by
 delta zcA at ho;refine fn λ_ _=>?_;obtain ⟨ta,ha,ho⟩:=bnd ho;refine gl2 ha ho [0,2,4,14,15] [] [] (λs g=>([(7,vI s.1),(16,vI s.2)],[])) (λb=>(.exit 0,λg=>([],[]))) (λb=>(.ret,λg=>([(6,vI b)],[]))) [] (λs8 g9 _ ho=>?_) (λba ho ga=>?_) λbb ho ga=>?_
 . refine gct ho (λhc ho=>?_) λhc ho=>?_
   . obtain ⟨xa,hd,ho⟩:=bnd ho;refine gal λbc=>?_;refine gfz 2 zU xa 0 [9] ?_;exact we ho
   . exact lv [] [] ho
 . exact we ho
 . exact rv ho⟩
instance i87 {a stop_1}:FI ktab 87 (zaV a stop_1) [.val zE a,vI stop_1] (λout=>[wI out]):=fw
theorem zgA {σ τ:Type} {step:σ->Use->Option (σ⊕τ)} {yv:zd} {K:σ⊕τ->List zd->Sx.Obj} (hcb:zq4 ktab yv (λx=>[.val zh2 x]) step K) {s_:σ} {d a out} (ho:zbC step s_ d a=Ob out) (γ0:List zd):zh0 ktab 83 [.raw yv,.val (zaP (zaP z8)) d,.val (zaP (zi .i64)) a] [(yv,K (.inl s_) γ0)] [] (λγ=>[(yv,K out (untup (gh γ 0)))]):=by
 refine zeS (F:=Tryz.f83) Om Om Om (λC=>?_);delta zbC at ho;refine gcl ho λy4 hy4 ho=>?_;obtain ⟨x5,hx5,ho⟩:=bnd ho;refine gal λb6=>?_;refine gfz 1 zE y4 0 [4] ?_;refine gcl ho λy7 hy7 ho=>?_;obtain ⟨ta,hc,ho⟩:=bnd ho;refine gl2 hc ho [1,4,5,23] [] [0] (λs g=>([(0,.raw yv),(24,vI s.1)],[(yv,K s.2 (untup (gh g 0)))])) (λb=>(.exit 0,λg=>([],[(yv,K b (untup (gh g 0)))]))) (λb=>(.ret,λg=>([],[(yv,K b (untup (gh g 0)))]))) [.tuple γ0] (λsa ga _ ho=>?_) (λba ho gb=>?_) λbb ho gb=>?_
 . refine gct ho (λhd ho=>?_) λhd ho=>?_
   . refine gcl ho λya hm ho=>?_;refine gcl ho λyb hn ho=>?_;obtain ⟨ca,he,ho⟩:=bnd ho;refine run 5 ?_;refine gcx ca [0,1,4,5,6,7,8,23,24] [] (λt=>(.normal,λg=>([(71,vB t.1)],[(yv,K t.2 (untup (gh g 0)))]))) ?_ λgd=>?_
     . have ho:=he;refine wbr ho (λhf ho=>?_) λhf ho=>?_
       . obtain ⟨xb,hp,ho⟩:=bnd ho;refine wbr ho (λha ho=>?_) λha ho=>?_
         . obtain ⟨xd,hr,ho⟩:=bnd ho;refine gcl ho λyc hs ho=>?_;obtain ⟨xe,ht,sb,hs206,ho⟩:=zgb ho;refine run 9 ?_;refine zeF (znU (K:=K) 0 (zjb hs206) rfl rfl) ?_;obtain ⟨yd,hg,ho⟩:=bnd ho;refine zkA [0] [] (λ_ h=>by cases h<;>exact ⟨by kernel_rfl,by kernel_rfl⟩) hcb hg rfl rfl rfl Oa (.g rfl rfl (gt1 ha)) rfl rfl rfl (.t rfl) (.c (.t rfl) .n) ?_;intro vb;exact lv [.tuple vb] [0] ho
         . exact lv [.tuple (untup (gh ga 0))] [0] ho
       . exact lv [.tuple (untup (gh ga 0))] [0] ho
     . refine gct ho (λhh ho=>?_) λhh ho=>?_
       . exact lv [.tuple (untup (gh gd 0))] [0] ho
       . obtain ⟨xf,hu,tb,hi,ho⟩:=zgb ho;refine gl2 hi ho [0,1,4,5,6,23,24,78,79] [] [0] (λs g=>([(80,vI s.1)],[(yv,K s.2 (untup (gh g 0)))])) (λb=>(.exit 2,λg=>([],[(yv,K b (untup (gh g 0)))]))) (λb=>(.ret,λg=>([],[(yv,K b (untup (gh g 0)))]))) [.tuple (untup (gh gd 0))] (λsc ge _ ho=>?_) (λbc ho gc=>?_) λbd ho gc=>?_
         . refine gct ho (λhj ho=>?_) λhj ho=>?_
           . obtain ⟨xa,hv,ho⟩:=bnd ho;refine gal λbe=>?_;refine gfz 1 zU xa 0 [10] ?_;obtain ⟨xg,hw,ho⟩:=bnd ho;refine gcl ho λye hy ho=>?_;obtain ⟨sd,hs251,ho⟩:=bnd ho;refine run 2 ?_;refine zeF (znU (K:=K) 0 (zjb hs251) rfl rfl) ?_;obtain ⟨yf,hk,ho⟩:=bnd ho;refine zkA [0] [] (λ_ h=>by cases h<;>exact ⟨by kernel_rfl,by kernel_rfl⟩) hcb hk rfl rfl rfl Oa (.n rfl) rfl rfl rfl (.t rfl) (.c (.t rfl) .n) ?_;intro va;refine gct ho (λhl ho=>?_) λhl ho=>?_
             . exact lv [.tuple va] [0] ho
             . exact lv [.tuple va] [0] ho
           . exact lv [.tuple (untup (gh ge 0))] [0] ho
         . exact lv [.tuple (untup (gh gc 0))] [0] ho
         . cases ho; exact id (lf [.tuple (untup (gh gc 0))] [0])
   . exact lv [.tuple (untup (gh ga 0))] [0] ho
 . cases ho; exact id (za5 [0] [.tuple (untup (gh gb 0))] (.inl rfl) .n rfl Oa)
 . cases ho; exact id (za5 [0] [.tuple (untup (gh gb 0))] (.inr rfl) .n rfl Oa)
theorem zgX {σ τ:Type} {step:σ->Use->Option (σ⊕τ)} {yv:zd} {K:σ⊕τ->List zd->Sx.Obj} (hcb:zq4 ktab yv (λx=>[.val zh2 x]) step K) {s_:σ} {b a out} (ho:zbC step s_ b a=Ob out) (γ0:List zd):zh0 ktab 83 [.raw yv,.val (zaP (zaP z8)) b,.val (zaP (zi .i64)) a] [(yv,K (.inl s_) γ0)] [] (λγ=>[(yv,K out γ)]):=
 zmC (zgA hcb ho γ0)
instance i37 {a trip_1}:FI ktab 37 (zdp a trip_1) [.val (zaP z8) a,vI trip_1] (λout=>[.val (zq2 83 [] [.val (zaP (zaP z8)) out.1,.val (zaP (zi .i64)) out.2]) ()]):=⟨λout ho=>by
 delta zdp at ho;refine fn λ_ _=>?_;refine run 4 ?_;refine zak rfl (.n rfl) rfl (e:=.raw .nfz) (λz fr h s=>⟨_,rfl,by simp only [TE.ok]; rfl⟩) ?_;refine run 3 ?_;refine zmA (.n rfl) rfl rfl .n (.c (.t rfl) (.c (.t rfl) .n)) ?_;exact we ho⟩
instance i82 {seq_1}:FI ktab 82 (zaL seq_1) [.raw .nsz,.val (zq2 83 [] [.val (zaP (zaP z8)) seq_1.1,.val (zaP (zi .i64)) seq_1.2]) ()] (λout=>[.row zh2 out]):=⟨λout ho=>by
 delta zaL at ho;refine fn λ_ _=>?_;refine run 2 ?_;refine zeF (zsz (n:=0) rfl) ?_;refine xbo λb1=>?_;refine zeF (zfE (q:=0) 0 rfl rfl rfl) ?_;refine zeF (zdS zh2) ?_;refine gnr zh2 ?_;obtain ⟨ta,ha,ho⟩:=bnd ho;refine run 7 ?_;refine zo4 (σ:=List Use) (τ:=Unit) (X:=Use) (ins:=(λx=>[.val zh2 x])) (zAU (λs g=>[(.nsz,.row zh2 ([])),(.ptr b1 0,.box [.raw (gh g 0)]),(gh g 0,.row zh2 s)]) (λ_ _=>[])) (λ_=>Oe) (s0:=[]) (r:=ta) [.nsz] [0,2,1] [] rfl (.t rfl) rfl rfl Oa (λ_=>rfl) (λyv K hcb γ=>zgX hcb ha γ) ?_ ?_
 . clear ho ha;intro s9 ga x2 r15 ho C;refine gal λba=>?_;refine gfz 1 zh2 x2 0 [5] ?_;refine zfn (λfr h s=>And.intro rfl (Exists.intro _ (Exists.intro _ (And.intro s (λC=>?_)))));obtain ⟨xa,hc,ho⟩:=bnd ho;refine gap λva=>?_;refine zdT 2 0 (U40).sz rfl rfl Og (.n rfl) rfl rfl (.t rfl) (.t rfl) Om ?_;cases ho; exact zfn (λfr h s=>And.intro rfl (Exists.intro [va] (s.pick [1,2,0] trivial rfl Oa)))
 . clear ha;have hz:=bnd ho;clear ho;obtain ⟨bb,h19,ho⟩:=hz;have h19:=zjb h19;subst h19;intro gb;refine gwk [1,2,4,6] [0,1,2] ?_;exact we ho⟩
instance i36 {seq_0}:FI ktab 36 (zb9 seq_0) [.val (zq2 83 [] [.val (zaP (zaP z8)) seq_0.1,.val (zaP (zi .i64)) seq_0.2]) ()] (λout=>[.row zh2 out]):=⟨λout ho=>by
 delta zb9 at ho;refine fn λ_ _=>?_;refine gnr zh2 ?_;obtain ⟨y1,hy1,ho⟩:=bnd ho;refine run 4 ?_;refine zgR (i82.ok _ hy1) (.r (zbJ zcF (zbJ zcF (zbJ zcF zgo))) .n) rfl (.n rfl) rfl rfl rfl .f (.c (.o .nilr) (.c (.o (.t rfl)) .n)) ?_;intro v2;exact we ho⟩
instance i11 {a trip_1}:FI ktab 11 (zd0 a trip_1) [.val zlQ a,vI trip_1] (λout=>[.row zh2 out.1,wI out.2]):=⟨λout ho=>by
 delta zd0 at ho;refine fn λ_ _=>?_;refine gnr zh2 ?_;refine gcl ho λy1 hy1 ho=>?_;obtain ⟨c6,hc6,ho⟩:=bnd ho;refine run 8 ?_;refine gcx c6 [1,6,7] [0] (λt=>(.normal,λ_=>([(29,vB t)],[]))) ?_ λ_=>?_
 . have ho:=hc6;refine wbr ho (λhb7 ho=>?_) λhb7 ho=>?_
   . exact lv [] [0] ho
   . refine wbr ho (λhb8 ho=>?_) λhb8 ho=>?_
     . obtain ⟨p9,hp9,ho⟩:=bnd ho;refine run 9 ?_;refine zeF (zcY (n:=20) hp9 rfl) ?_;refine gcl ho λya he ho=>?_;exact lv [] [0] ho
     . exact lv [] [0] ho
 . refine gct ho (λha ho=>?_) λha ho=>?_
   . refine gnr zh2 ?_;exact we ho
   . refine gct ho (λhc ho=>?_) λhc ho=>?_
     . refine gnr zh2 ?_;exact we ho
     . obtain ⟨pa,hd,ho⟩:=bnd ho;refine run 5 ?_;refine zeF (zcY (n:=33) hd rfl) ?_;refine gcl ho λyb hf ho=>?_;refine gcl ho λyc hg ho=>?_;intro va;exact we ho⟩
end Go.Ai.TabYtfamdelkpempgaaGreat
namespace Go.Ai.TabYtfamdelkpempgaaGreat
open Go Go.Ai Go.Ai.Sx Go.Proofs
attribute [local irreducible] zp
set_option maxRecDepth 100000
set_option maxHeartbeats 4000000
instance i9:FI ktab 9 zdM [] (λout=>[wB out]):=fw
instance i3 {d_0}:FI ktab 3 (ze2 d_0) [.val zlQ d_0] (λout=>[wB out]):=⟨λout ho=>by
 delta ze2 at ho;refine fn λ_ _=>?_;refine run 2 ?_;refine xbo λb1=>?_;refine glb d_0 0 ?_;refine gcl ho λy2 hy2 ho=>?_;refine gct ho (λhq3 ho=>?_) λhq3 ho=>?_
 . exact we ho
 . refine glb d_0 0 ?_;refine gcl ho λy5 hy5 ho=>?_;refine gct ho (λhq6 ho=>?_) λhq6 ho=>?_
   . exact we ho
   . obtain ⟨ta,hc,ho⟩:=bnd ho;refine gl2 hc ho [3] [] [0] (λs g=>([(1,.raw (.ptr b1 0)),(5,vI s)],[(.ptr b1 0,.box [.val (zb zbh) d_0.1.1,.val (zb zc4) d_0.1.2.1,.val (zb zc5) d_0.2.1.1,.val (zb (zi .i64)) d_0.2.1.2.1,.val (zb (zi .i64)) d_0.2.1.2.2.1,.val (zb zb7) d_0.2.2.1,vI d_0.d3.1,vI d_0.d4.1,.val (zb zat) d_0.d5.1])])) (λb=>(.exit 0,λg=>([(1,.raw (.ptr b1 0))],[(.ptr b1 0,.box [.val (zb zbh) d_0.1.1,.val (zb zc4) d_0.1.2.1,.val (zb zc5) d_0.2.1.1,.val (zb (zi .i64)) d_0.2.1.2.1,.val (zb (zi .i64)) d_0.2.1.2.2.1,.val (zb zb7) d_0.2.2.1,vI d_0.d3.1,vI d_0.d4.1,.val (zb zat) d_0.d5.1])]))) (λb=>(.ret,λg=>([(2,vB b)],[]))) [] (λsa ge _ ho=>?_) (λba ho ga=>?_) λbb ho ga=>?_
     . refine gct ho (λhd ho=>?_) λhd ho=>?_
       . refine glb d_0 0 ?_;refine gcl ho λya hA ho=>?_;intro va;show zp ..;refine wbr ho (λhe ho=>?_) λhe ho=>?_
         . refine gk ?_;exact we ho
         . refine gct ho (λhf ho=>?_) λhf ho=>?_
           . exact we ho
           . obtain ⟨tb,hg,ho⟩:=bnd ho;refine gl2 hg ho [3,5,42,43] [] [0,1] (λs g=>([(1,.raw (.ptr b1 0)),(6,.raw va),(8,vI s),(41,.raw va)],[(va,.row zh2 ya.1),(.ptr b1 0,.box [.val (zb zbh) d_0.1.1,.val (zb zc4) d_0.1.2.1,.val (zb zc5) d_0.2.1.1,.val (zb (zi .i64)) d_0.2.1.2.1,.val (zb (zi .i64)) d_0.2.1.2.2.1,.val (zb zb7) d_0.2.2.1,vI d_0.d3.1,vI d_0.d4.1,.val (zb zat) d_0.d5.1])])) (λb=>(.exit 2,λg=>([(1,.raw (.ptr b1 0)),(41,.raw va)],[(va,.row zh2 ya.1),(.ptr b1 0,.box [.val (zb zbh) d_0.1.1,.val (zb zc4) d_0.1.2.1,.val (zb zc5) d_0.2.1.1,.val (zb (zi .i64)) d_0.2.1.2.1,.val (zb (zi .i64)) d_0.2.1.2.2.1,.val (zb zb7) d_0.2.2.1,vI d_0.d3.1,vI d_0.d4.1,.val (zb zat) d_0.d5.1])]))) (λb=>(.ret,λg=>([(2,vB b)],[]))) [] (λsb gf _ ho=>?_) (λbc ho gb=>?_) λbd ho gb=>?_
             . refine gct ho (λhh ho=>?_) λhh ho=>?_
               . obtain ⟨tc,hi,ho⟩:=bnd ho;refine gl2 hi ho [1,3,5,6,8,41,42,43] [] [0,1] (λs g=>([(9,vI s)],[(va,.row zh2 ya.1),(.ptr b1 0,.box [.val (zb zbh) d_0.1.1,.val (zb zc4) d_0.1.2.1,.val (zb zc5) d_0.2.1.1,.val (zb (zi .i64)) d_0.2.1.2.1,.val (zb (zi .i64)) d_0.2.1.2.2.1,.val (zb zb7) d_0.2.2.1,vI d_0.d3.1,vI d_0.d4.1,.val (zb zat) d_0.d5.1])])) (λb=>(.exit 4,λg=>([],[(va,.row zh2 ya.1),(.ptr b1 0,.box [.val (zb zbh) d_0.1.1,.val (zb zc4) d_0.1.2.1,.val (zb zc5) d_0.2.1.1,.val (zb (zi .i64)) d_0.2.1.2.1,.val (zb (zi .i64)) d_0.2.1.2.2.1,.val (zb zb7) d_0.2.2.1,vI d_0.d3.1,vI d_0.d4.1,.val (zb zat) d_0.d5.1])]))) (λb=>(.ret,λg=>([(2,vB b)],[]))) [] (λsc gg _ ho=>?_) (λbe ho gc=>?_) λbf ho gc=>?_
                 . refine gct ho (λhj ho=>?_) λhj ho=>?_
                   . refine run 4 ?_;refine zax [4,6,17,19,29,31] Z ?_;obtain ⟨xa,hk,ho⟩:=bnd ho;refine run 4 ?_;refine zi8 0 (λ_ h=>by cases h<;>rfl) iu' zu7 (zer hk).2.2.2 (.n rfl) rfl rfl (.t rfl) rfl ?_;obtain ⟨xb,hB,ho⟩:=bnd ho;refine wbr ho (λha ho=>?_) λha ho=>?_
                     . obtain ⟨xd,hl,ho⟩:=bnd ho;refine run 12 ?_;refine zi8 0 (λ_ h=>by cases h<;>rfl) iu' zu8 (zer hl).2.2.2 (.g rfl rfl (gt1 ha)) rfl rfl (.t rfl) rfl ?_;obtain ⟨xe,hC,xf,hm,ho⟩:=zgb ho;refine run 11 ?_;refine zi8 0 (λ_ h=>by cases h<;>rfl) iu' zu9 (zer hm).2.2.2 (.g rfl rfl (gt1 ha)) rfl rfl (.t rfl) rfl ?_;obtain ⟨xg,hD,ho⟩:=bnd ho;refine gct ho (λhn ho=>?_) λhn ho=>?_
                       . exact we ho
                       . exact lv [] [0,1] ho
                     . refine gk ?_;exact lv [] [0,1] ho
                   . exact lv [] [0,1] ho
                 . exact lv [] [0,1] ho
                 . cases ho; exact id (lf [] [])
               . exact lv [] [0,1] ho
             . exact lv [] [1] ho
             . cases ho; exact id (lf [] [])
       . exact lv [] [0] ho
     . refine run 3 ?_;refine zmx 0 (U30).sz rfl Og (.n rfl) rfl rfl (.t rfl) (.nil (R:=zb7)) rfl rfl ?_;refine glb (((d_0.1.1,d_0.1.2.1,()),(d_0.2.1.1,d_0.2.1.2.1,d_0.2.1.2.2.1,()),[],d_0.d3.1,d_0.d4.1,d_0.d5.1,()):Day) 0 ?_;refine gcl ho λyc hE ho=>?_;refine run 9 ?_;refine zhz (R:=zbG) (a:=(d_0.1.1,d_0.1.2.1,())) (off:=0) 0 (λ_ h=>by cases h<;>rfl) iu' zxs Og (.n rfl) rfl rfl (.t rfl) rfl ?_;refine run 1 ?_;refine zhz (R:=zdn) (a:=(d_0.2.1.1,d_0.2.1.2.1,d_0.2.1.2.2.1,())) (off:=2) 0 (λ_ h=>by cases h<;>rfl) iu' zrc Og (.n rfl) rfl rfl (.t rfl) rfl ?_;obtain ⟨yb,hp,ho⟩:=bnd ho;refine run 4 ?_;refine zgR (i12.ok _ hp) (.r (zbJ zcF (zbJ zfQ (zbJ zcF (zbJ zcF zgo)))) (.v zcF .n)) rfl (.n rfl) rfl rfl rfl .f (.c (.o (.t rfl)) (.c (.o (.t rfl)) (.c (.o .nil) (.c (.o (.t rfl)) (.c (.o (.t rfl)) .n))))) ?_;intro vb;show zp ..;obtain ⟨ca,hr,ho⟩:=bnd ho;refine run 8 ?_;refine gcx ca [10,12] [0,1] (λt=>(.normal,λ_=>([(134,vB t)],[]))) ?_ λ_=>?_
       . have ho:=hr;refine wbr ho (λhs ho=>?_) λhs ho=>?_
         . exact lv [] [0,1] ho
         . refine wbr ho (λht ho=>?_) λht ho=>?_
           . exact lv [] [0,1] ho
           . refine wbr ho (λhu ho=>?_) λhu ho=>?_
             . exact lv [] [0,1] ho
             . exact lv [] [0,1] ho
       . refine gct ho (λhv ho=>?_) λhv ho=>?_
         . exact we ho
         . obtain ⟨td,hw,ho⟩:=bnd ho;refine gl2 hw ho [10,12] [] [0] (λs g=>([(14,vI s)],[(vb,.row z7 yb.1)])) (λb=>(.exit 6,λg=>([],[]))) (λb=>(.ret,λg=>([(2,vB b)],[]))) [] (λsd gh _ ho=>?_) (λbg ho gd=>?_) λbh ho gd=>?_
           . refine gct ho (λhy ho=>?_) λhy ho=>?_
             . refine run 4 ?_;refine zax [7] Z ?_;obtain ⟨xh,hF,xi,hG,ho⟩:=zgb ho;refine gct ho (λhz ho=>?_) λhz ho=>?_
               . exact we ho
               . exact lv [] [0] ho
             . exact lv [] [] ho
           . exact we ho
           . exact rv ho
     . exact rv ho⟩
end Go.Ai.TabYtfamdelkpempgaaGreat
namespace Go.Proofs.YtfamdelkpempgaaGreat
open Go Go.Ai Go.Ai.Sx Go.Ai.TabYtfamdelkpempgaaGreat
def zk2:zt9 (Day×Unit):=zxn zlQ zBu
theorem zrx:znX Tryz.prog [33] zk2:=zo6 o33 Z zq7
theorem zt5 {z:Store} {vs:List zd} {x:Day×Unit} (h:zk2.rel z vs x):x.1.2.1.1.length<=9223372036854775807/\x.1.2.1.2.1.length<=9223372036854775807:=by
 obtain ⟨_,_,_,h1,_⟩:=h;obtain ⟨_,_,_,_,⟨_,_,_,hS,_⟩⟩:=h1.rel;obtain ⟨_,_,_,⟨_,_,h3⟩,⟨_,_,_,⟨_,_,h4⟩,_⟩⟩:=hS;exact ⟨h3.1,h4.1⟩
set_option maxRecDepth 100000 in
theorem zBV:(Rows.topNightRow.inPlace==Tryz.prog.inPlace 3)=Od:=Z
set_option maxRecDepth 100000 in
theorem zBW:(Rows.topNightRow.unfollowed==Tryz.prog.unfollowed 3)=Od:=Z
set_option maxRecDepth 100000 in
theorem zBX:(Rows.topNightRow.recurses==Tryz.prog.recurses 3)=Od:=Z
set_option maxRecDepth 100000 in
theorem zBY:(Rows.topNightRow.named==Tryz.prog.varsNamed 3)=Od:=Z
set_option maxRecDepth 100000 in
theorem zBZ:(Rows.topNightRow.loops==(Tryz.f3.params.toList++Rows.topNightSpec.plain.varTypes Tryz.prog).any (Tryz.prog.loopsFrom ·))=Od:=Z
set_option maxRecDepth 100000 in
theorem zB0:Rows.topNightRow.wf (OpenSpec.ofChange Rows.topNightSpec)=Od:=Z
set_option maxRecDepth 100000 in
theorem zB1:Tryz.f3.params.all (Tryz.prog.readableRec ·)=Od:=Z
set_option maxRecDepth 100000 in
theorem zB2:(Rows.topNightRow.maps==(Tryz.f3.params.toList++Rows.topNightSpec.plain.varTypes Tryz.prog).any (Tryz.prog.mapsRec ·))=Od:=Z
set_option maxRecDepth 100000 in
theorem zB3:(Rows.topNightRow.ifaces==(Tryz.f3.params.toList++Rows.topNightSpec.plain.varTypes Tryz.prog).any (Tryz.prog.ifacesRec ·))=Od:=Z
set_option maxRecDepth 100000 in
theorem zza:joinedFacts Tryz.prog 3 Tryz.f3 Rows.topNightSpec Rows.topNightRow=Od:=by
 unfold joinedFacts;exact (zh3 (zh3 (zh3 (zh3 (zh3 (zh3 (zh3 (zh3 (zh3 (zh3 (zh3 (zh3 (zh3 (zh3 (zh3 (zh3 (zh3 (zh3 (zh3 (zh3 (zh3 (zh3 (zh3 (zh3 (zh3 (zh3 (zh3 (zh3 (zh3 (zh3 (zh3 zB0 zsG) zz8) zB1) Z) rfl) zye) rfl) zyf) zBV) zBW) zBX) zBY) zB2) zB3) Z) zBZ) Z) Z) Z) Z) Z) zyg) rfl) zyh) zyi) zz9) zAa) Z) Z) Z) Z)
set_option maxRecDepth 100000 in
theorem night_holds:Rows.TopNightSaid:=
 OpenClaim.holds_of_wide 3 Tryz.f3 rfl rfl rfl rfl rfl rfl rfl ⟨rfl,rfl,rfl,rfl,rfl⟩ rfl rfl rfl rfl rfl Z Tryz.func3 zza
  (of_decide_eq_true Z) (by unfold Func.isWrapper; first | (rw [if_pos (by decide +kernel)]; kernel_rfl) | (rw [if_neg (by decide +kernel)]; exact ⟨rfl,rfl⟩))
  (λos started H enc _=>by
   show ReturnsInHanded {} Tryz.checked os 3 .any (Rows.topNightSpec.pre6 enc Tryz.prog Tryz.f3 Rows.topNightRow.domain Oc) (Rows.topNightSpec.post enc Tryz.prog Tryz.f3 Oc Od Oc Oc);refine returnsInHanded_of_change_shaped (C:=Tryz.checked) own started Z Tryz.func3
    (ChangeSpec.witness6 (enc:=enc) (C:=Tryz.checked) Oc ⟨#[],#[.agg #[.slice Oe 0 0,.slice Oe 0 0,.slice Oe 0 0,.slice Oe 0 0,.slice Oe 0 0,.slice Oe 0 0,.int .i64 0,.int .i64 0,.slice Oe 0 0]],[]⟩ 3 Z Z Z Z) ?_
   intro W base args ds gs before hval hW _ _ hsh _;exact znY (C:=Tryz.checked) zxr zsG rfl (tb:=4) Z Tryz.underlying4 (by rw [Tryz.params3]; decide +kernel) (λH ds hd=>by
    match ds,hd with
    | [_],_=>rfl) (by rw [Tryz.params3]; exact zrx)
    (zxp (S:=zk2) (zuZ zxo) (λz vs x hx=>i3.ok _ (zt0 x.1 (zt5 hx).1 (zt5 hx).2))) (zvc hsh) hval hW)
end Go.Proofs.YtfamdelkpempgaaGreat