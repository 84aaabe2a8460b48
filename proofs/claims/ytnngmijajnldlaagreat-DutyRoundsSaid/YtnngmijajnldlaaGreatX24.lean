/- Written by program: walks through functions. -/
import Derived.Test.YtnngmijajnldlaaGreatX11
import Derived.Test.YtnngmijajnldlaaGreatX20
import Derived.Test.YtnngmijajnldlaaGreatX23
set_option linter.unusedSimpArgs false
set_option linter.unusedVariables false
set_option linter.unusedSectionVars false
open Option renaming some→Ob,none→Oe
namespace Go.Ai.TabYtnngmijajnldlaaGreat
open Go Go.Ai Go.Ai.Sx Go.Proofs
attribute [local irreducible] zm
set_option maxRecDepth 100000
set_option maxHeartbeats 4000000
instance i26 {c l_1}:FI ktab 26 (zb5 c l_1) [.val zdS c,.val zfN l_1] (λout=>[.val (ze9 zl) out.1,wB out.2]):=⟨λout ho=>by
 delta zb5 at ho;refine fn λ_ _=>?_;refine run 4 ?_;refine zau rfl (.n rfl) rfl (e:=.val (ze9 zl) Oe) (λz fr h s=>⟨_,rfl,zcv⟩) ?_;obtain ⟨c4,hc4,ho⟩:=bnd ho;refine run 4 ?_;refine gcx c4 [2,3] [] (λt=>(.normal,λ_=>([(18,vB t)],[]))) ?_ λ_=>?_
 . exact we hc4
 . refine gct ho (λhq8 ho=>?_) λhq8 ho=>?_
   . refine run 2 ?_;refine zau rfl (.n rfl) rfl (e:=.val (ze9 zl) Oe) (λz fr h s=>⟨_,rfl,zcv⟩) ?_;exact we ho
   . refine run 4 ?_;refine zkr (R:=zl) zCx (.n rfl) rfl rfl rfl (.p (.t rfl) rfl (.z (λ_=>zzH znil rfl rfl) (.z (λ_=>zzH znil rfl rfl) (.n rfl)))) ?_;refine xbo λb9=>?_;refine gcl ho λyb hg ho=>?_;obtain ⟨ta,hd,ho⟩:=bnd ho;refine gl2 hd ho [2,3,6,23] [] [0] (λs g=>([(24,vI s.1)],[(.ptr b9 0,.box [.val (zb zam) l_1.1.1,.val (zb (zh .i64)) l_1.1.2.1,.val (zb (zh .i64)) l_1.1.2.2.1,.val (zb zam) l_1.2.1.1,.val (zb (zh .i64)) l_1.2.1.2.1,.val (zb (zh .i64)) l_1.2.1.2.2.1,vI l_1.2.2.1.1,vI l_1.2.2.1.2.1,vI l_1.2.2.1.2.2.1,vI l_1.2.2.1.2.2.2.1,vI l_1.2.2.1.2.2.2.2.1,vI l_1.2.2.1.2.2.2.2.2.1,vI l_1.2.2.1.2.2.2.2.2.2.1,vI l_1.2.2.1.2.2.2.2.2.2.2.1,vI l_1.2.2.1.2.2.2.2.2.2.2.2.1,.val (zb (zh .i64)) l_1.2.2.1.2.2.2.2.2.2.2.2.2.1,vI l_1.d3.1,vI l_1.d4.1,.val (zb (zh .i64)) s.2.1,.val (zb (zh .i64)) s.2.2.1,.val (zb (zh .i64)) s.d3.1,.val (zb (zh .i64)) s.d4])])) (λb=>(.exit 0,λg=>([],[(.ptr b9 0,.box [.val (zb zam) l_1.1.1,.val (zb (zh .i64)) l_1.1.2.1,.val (zb (zh .i64)) l_1.1.2.2.1,.val (zb zam) l_1.2.1.1,.val (zb (zh .i64)) l_1.2.1.2.1,.val (zb (zh .i64)) l_1.2.1.2.2.1,vI l_1.2.2.1.1,vI l_1.2.2.1.2.1,vI l_1.2.2.1.2.2.1,vI l_1.2.2.1.2.2.2.1,vI l_1.2.2.1.2.2.2.2.1,vI l_1.2.2.1.2.2.2.2.2.1,vI l_1.2.2.1.2.2.2.2.2.2.1,vI l_1.2.2.1.2.2.2.2.2.2.2.1,vI l_1.2.2.1.2.2.2.2.2.2.2.2.1,.val (zb (zh .i64)) l_1.2.2.1.2.2.2.2.2.2.2.2.2.1,vI l_1.d3.1,vI l_1.d4.1,.val (zb (zh .i64)) b.1,.val (zb (zh .i64)) b.2.1,.val (zb (zh .i64)) b.2.2.1,.val (zb (zh .i64)) b.d3])]))) (λb=>(.ret,λg=>([(4,.val (ze9 zl) b.1),(5,vB b.2.1)],[]))) [] (λsa gb _ ho=>?_) (λba ho ga=>?_) λbb ho ga=>?_
     . refine gct ho (λhe ho=>?_) λhe ho=>?_
       . obtain ⟨xa,hh,ho⟩:=bnd ho;refine gal λbc=>?_;refine gfz 2 zd6 xa 0 [8] ?_;refine gcl ho λya hi ho=>?_;intro va vb;show zm ..;obtain ⟨xb,ha,ho⟩:=bnd ho;refine run 6 ?_;refine zst ia' rfl ha (.n rfl) rfl rfl (.t rfl) (.t rfl) ?_;refine zdh (zgd 0 [37] rfl rfl ⟨rfl,trivial⟩) ?_;refine znS (es':=[.val (zb zam) l_1.1.1,.val (zb (zh .i64)) l_1.1.2.1,.val (zb (zh .i64)) l_1.1.2.2.1,.val (zb zam) l_1.2.1.1,.val (zb (zh .i64)) l_1.2.1.2.1,.val (zb (zh .i64)) l_1.2.1.2.2.1,vI l_1.2.2.1.1,vI l_1.2.2.1.2.1,vI l_1.2.2.1.2.2.1,vI l_1.2.2.1.2.2.2.1,vI l_1.2.2.1.2.2.2.2.1,vI l_1.2.2.1.2.2.2.2.2.1,vI l_1.2.2.1.2.2.2.2.2.2.1,vI l_1.2.2.1.2.2.2.2.2.2.2.1,vI l_1.2.2.1.2.2.2.2.2.2.2.2.1,.val (zb (zh .i64)) l_1.2.2.1.2.2.2.2.2.2.2.2.2.1,vI l_1.d3.1,vI l_1.d4.1,.val (zb (zh .i64)) (cond (sa.1==0) ya.1 sa.2.1),.val (zb (zh .i64)) (cond (sa.1==1) ya.1 sa.2.2.1),.val (zb (zh .i64)) sa.d3.1,.val (zb (zh .i64)) sa.d4]) 1 (U27).sz rfl (zv9 ha Og) (by rcases ix2 ha with e_ | e_<;>rw [e_]<;>rfl) (.n rfl) rfl rfl (.t rfl) (.t rfl) rfl rfl ?_;obtain ⟨xd,hc,ho⟩:=bnd ho;refine run 2 ?_;refine zst ia' rfl hc (.n rfl) rfl rfl (.t rfl) (.t rfl) ?_;refine zdh (zgd 0 [38] rfl rfl ⟨rfl,trivial⟩) ?_;refine znS (es':=[.val (zb zam) l_1.1.1,.val (zb (zh .i64)) l_1.1.2.1,.val (zb (zh .i64)) l_1.1.2.2.1,.val (zb zam) l_1.2.1.1,.val (zb (zh .i64)) l_1.2.1.2.1,.val (zb (zh .i64)) l_1.2.1.2.2.1,vI l_1.2.2.1.1,vI l_1.2.2.1.2.1,vI l_1.2.2.1.2.2.1,vI l_1.2.2.1.2.2.2.1,vI l_1.2.2.1.2.2.2.2.1,vI l_1.2.2.1.2.2.2.2.2.1,vI l_1.2.2.1.2.2.2.2.2.2.1,vI l_1.2.2.1.2.2.2.2.2.2.2.1,vI l_1.2.2.1.2.2.2.2.2.2.2.2.1,.val (zb (zh .i64)) l_1.2.2.1.2.2.2.2.2.2.2.2.2.1,vI l_1.d3.1,vI l_1.d4.1,.val (zb (zh .i64)) (cond (sa.1==0) ya.1 sa.2.1),.val (zb (zh .i64)) (cond (sa.1==1) ya.1 sa.2.2.1),.val (zb (zh .i64)) (cond (sa.1==0) ya.2.1 sa.d3.1),.val (zb (zh .i64)) (cond (sa.1==1) ya.2.1 sa.d4)]) 0 (U27).sz rfl (zv9 hc Og) (by rcases ix2 hc with e_ | e_<;>rw [e_]<;>rfl) (.n rfl) rfl rfl (.t rfl) (.t rfl) rfl rfl ?_
         refine gct ho (λhf ho=>?_) λhf ho=>?_
         . refine run 2 ?_;refine zau rfl (.n rfl) rfl (e:=.val (ze9 zl) Oe) (λz fr h s=>⟨_,rfl,zcv⟩) ?_;exact we ho
         . exact lv [] [0] ho
       . exact lv [] [0] ho
     . refine run 6 ?_;cases ho;refine zm2 (zb8 (R:=zl) (a:=(((l_1.1.1,l_1.1.2.1,l_1.1.2.2.1,()),(l_1.2.1.1,l_1.2.1.2.1,l_1.2.1.2.2.1,()),(l_1.2.2.1.1,l_1.2.2.1.2.1,l_1.2.2.1.2.2.1,l_1.2.2.1.2.2.2.1,l_1.2.2.1.2.2.2.2.1,l_1.2.2.1.2.2.2.2.2.1,l_1.2.2.1.2.2.2.2.2.2.1,l_1.2.2.1.2.2.2.2.2.2.2.1,l_1.2.2.1.2.2.2.2.2.2.2.2.1,l_1.2.2.1.2.2.2.2.2.2.2.2.2.1,()),l_1.d3.1,l_1.d4.1,()),[ba.1,ba.2.1],[ba.2.2.1,ba.d3],())) 0 [6,49,4] (zt (zt (zt (zz rfl) (zt (zz rfl) (zt (zz rfl) zb7 rfl) rfl) rfl) (zt (zt (zz rfl) (zt (zz rfl) (zt (zz rfl) zb7 rfl) rfl) rfl) (zt (zt (zz rfl) (zt (zz rfl) (zt (zz rfl) (zt (zz rfl) (zt (zz rfl) (zt (zz rfl) (zt (zz rfl) (zt (zz rfl) (zt (zz rfl) (zt (zz rfl) zb7 rfl) rfl) rfl) rfl) rfl) rfl) rfl) rfl) rfl) rfl) (zt (zz rfl) (zt (zz rfl) zb7 rfl) rfl) rfl) rfl) rfl) (zt (zi7 rfl) (zt (zi7 rfl) zb7 rfl) rfl) rfl) rfl rfl ⟨rfl,rfl,rfl,trivial⟩) ?_;refine zm2 (zkC (n:=4) rfl) ?_;exact zdR (zdd (.inr rfl) (.v rfl (.v rfl .n)) Oa)
     . exact rv ho⟩
instance i40 {a l_1}:FI ktab 40 (zdx a l_1) [.val zdS a,.val (zb zfN) l_1] (λout=>[.row (zL zl) out.1,wB out.2]):=⟨λout ho=>by
 delta zdx at ho;refine fn λ_ _=>?_;refine gnr (zL zl) ?_;refine gcl ho λy1 hy1 ho=>?_;refine gct ho (λhq2 ho=>?_) λhq2 ho=>?_
 . refine gnr (zL zl) ?_;exact we ho
 . refine gnr (zL zl) ?_;obtain ⟨ta,ha,ho⟩:=bnd ho;refine gl2 ha ho [2,15,16] [] [0] (λs g=>([(6,.raw (gh g 0)),(17,vI s.2)],[(gh g 0,.row (zL zl) s.1)])) (λb=>(.exit 0,λg=>([(6,.raw (gh g 0))],[(gh g 0,.row (zL zl) b)]))) (λb=>(.ret,λg=>([(4,.raw (gh g 0)),(5,vB b.2)],[(gh g 0,.row (zL zl) b.1)]))) [.nsz] (λsa ga _ ho=>?_) (λba ho gb=>?_) λbb ho gb=>?_
   . refine gct ho (λhc ho=>?_) λhc ho=>?_
     . obtain ⟨xa,hf,ho⟩:=bnd ho;refine gal λbc=>?_;refine gfz 1 zfN xa 0 [8] ?_;refine gcl ho λya hg ho=>?_;refine gct ho (λhd ho=>?_) λhd ho=>?_
       . refine gnr (zL zl) ?_;exact lv [.nsz] [0] ho
       . obtain ⟨pa,he,ho⟩:=bnd ho;refine run 4 ?_;refine zdh (zcr (n:=30) he rfl) ?_;obtain ⟨xb,hh,ho⟩:=bnd ho;refine gap λva=>?_;exact lv [va] [0] ho
     . exact lv [gh ga 0] [0] ho
   . exact we ho
   . exact rv ho⟩
instance i17 {a s_1}:FI ktab 17 (zcc a s_1) [.val zdS a,.val zd0 s_1] (λout=>[.val (zb (zL zl)) out.1,wB out.2]):=⟨λout ho=>by
 delta zcc at ho;refine fn λ_ _=>?_;refine run 4 ?_;refine zeq (.n rfl) rfl rfl (.nil (R:=zL zl)) ?_;obtain ⟨c4,hc4,ho⟩:=bnd ho;refine run 4 ?_;refine gcx c4 [2,3] [] (λt=>(.normal,λ_=>([(23,vB t)],[]))) ?_ λ_=>?_
 . exact we hc4
 . refine gct ho (λhq6 ho=>?_) λhq6 ho=>?_
   . refine run 2 ?_;refine zeq (.n rfl) rfl rfl (.nil (R:=zL zl)) ?_;exact we ho
   . obtain ⟨ta,ha,ho⟩:=bnd ho;refine gl2 ha ho [2,3,25,26] [] [] (λs g=>([(27,vI s)],[])) (λb=>(.exit 0,λg=>([],[]))) (λb=>(.ret,λg=>([(4,.val (zb (zL zl)) b.1),(5,vB b.2)],[]))) [] (λsa gb _ ho=>?_) (λba ho ga=>?_) λbb ho ga=>?_
     . refine gct ho (λhc ho=>?_) λhc ho=>?_
       . obtain ⟨xa,hf,ho⟩:=bnd ho;refine gcl ho λya hg ho=>?_;refine wbr ho (λhd ho=>?_) λhd ho=>?_
         . refine gk ?_;refine run 2 ?_;refine zeq (.n rfl) rfl rfl (.nil (R:=zL zl)) ?_;exact we ho
         . obtain ⟨xb,hh,ho⟩:=bnd ho;refine gcl ho λyb hi ho=>?_;refine gct ho (λhe ho=>?_) λhe ho=>?_
           . refine run 2 ?_;refine zeq (.n rfl) rfl rfl (.nil (R:=zL zl)) ?_;exact we ho
           . exact we ho
       . exact lv [] [] ho
     . refine gcl ho λyc hj ho=>?_;intro va;show zm ..;refine run 5 ?_;cases ho;refine zm2 (zgd 0 [51,4] rfl rfl ⟨rfl,rfl,trivial⟩) ?_;exact zdR (zdd (.inr rfl) (.v rfl (.v rfl .n)) Oa)
     . exact rv ho⟩
instance i77 {a f_1}:FI ktab 77 (zac a f_1) [.val (zb zeC) a,.val (rFn ktab Works Bool (λx=>[.val zeC x]) (λy=>[.val zw y])) f_1] (λout=>[wI out]):=⟨λout ho=>by
 delta zac at ho;refine fn λ_ _=>?_;obtain ⟨ta,ha,ho⟩:=bnd ho;refine gl2 ha ho [0,1,7] [] [] (λs g=>([(8,vI s)],[])) (λb=>(.exit 0,λg=>([],[]))) (λb=>(.ret,λg=>([(4,vI b)],[]))) [] (λs5 g6 _ ho=>?_) (λba ho ga=>?_) λbb ho ga=>?_
 . refine gct ho (λhq7 ho=>?_) λhq7 ho=>?_
   . obtain ⟨x8,hx8,y9,hy9,ho⟩:=zff ho;refine gcv hy9 ?_;exact we ho
   . exact lv [] [] ho
 . exact we ho
 . exact rv ho⟩
instance i41 {a f_1}:FI ktab 41 (zX a f_1) [.val (zb zeC) a,.val (rFn ktab Works Bool (λx=>[.val zeC x]) (λy=>[.val zw y])) f_1] (λout=>[wB out]):=fw
instance i42 {a p_1}:FI ktab 42 (zbI a p_1) [.val zeC a,.val (zL zdS) p_1] (λout=>[wB out]):=⟨λout ho=>by
 delta zbI at ho;refine fn λ_ _=>?_;obtain ⟨c5,hc5,ho⟩:=bnd ho;refine run 6 ?_;refine gcx c5 [] [] (λt=>(.normal,λ_=>([(3,vB t)],[]))) ?_ λ_=>?_
 . exact we hc5
 . exact rv ho⟩
instance i18 {a w_1}:FI ktab 18 (zcV a w_1) [.val zdS a,.val (zb zeC) w_1] (λout=>[wB out]):=⟨λout ho=>by
 delta zcV at ho;refine fn λ_ _=>?_;obtain ⟨c4,hc4,ho⟩:=bnd ho;refine run 6 ?_;refine gcx c4 [] [] (λt=>(.normal,λ_=>([(4,vB t)],[]))) ?_ λ_=>?_
 . have ho:=hc4;refine wbr ho (λhb5 ho=>?_) λhb5 ho=>?_
   . refine run 6 ?_;refine zeB (X:=Works) (Y:=Bool) (λx=>[.val zeC x]) (λy=>[.val zw y]) (f:=(λx=>zbI x a)) (λx y hf=>i42.ok _ hf) rfl (.g rfl rfl (gt1 hb5)) rfl rfl .n (.c (.t rfl) .n) ?_;exact we ho
   . exact we ho
 . exact rv ho⟩
instance i21 {a side_1}:FI ktab 21 (zx a side_1) [.val (zL zl) a,vI side_1] (λout=>[wI out]):=⟨λout ho=>by
 delta zx at ho;refine fn λ_ _=>?_;obtain ⟨x4,hx4,ho⟩:=bnd ho;refine run 10 ?_;refine zcX ia' hx4 (.n rfl) rfl rfl (.t rfl) (.t rfl) ?_;obtain ⟨x5,hx5,ho⟩:=bnd ho;refine run 5 ?_;refine zcX ia' hx5 (.n rfl) rfl rfl (.t rfl) (.t rfl) ?_;exact we ho⟩
instance i55 {r_0}:FI ktab 55 (zbs r_0) [.val (zL zl) r_0] (λout=>[wI out]):=fw
instance i27 {a headway_1}:FI ktab 27 (zaP a headway_1) [.val (zL zl) a,vI headway_1] (λout=>[wI out]):=fw
instance i44 {c b a offset_3}:FI ktab 44 (zcl c b a offset_3) [.val (zL zl) c,vI b,vI a,vI offset_3] (λout=>[wI out]):=fw
instance i45 {a h_1}:FI ktab 45 (zbV a h_1) [vI a,vI h_1] (λout=>[wI out]):=fw
theorem zek {σ τ:Type} {step:σ->(Int×Int)->Option (σ⊕τ)} {yv:zd} {K:σ⊕τ->List zd->Sx.Obj} (hcb:zr9 ktab yv (λx=>[.val (zh .i64) x.1,.val (zh .i64) x.2]) step K) {s_:σ} {i a f d e out} (ho:zH step s_ i a f d e=Ob out) (γ0:List zd):zfL ktab 43 [.raw yv,.val (zL (zL zl)) i,.val (zL (zh .i64)) a,.val (zL (zh .i64)) f,.val (zL (zh .i64)) d,.val (zL (zh .i64)) e] [(yv,K (.inl s_) γ0)] [] (λγ=>[(yv,K out (untup (gh γ 0)))]):=by
 refine zco (F:=Tryz.f43) Om Om Om (λC=>?_);delta zH at ho;refine gcl ho λy1 hy1 ho=>?_;refine gcl ho λy3 hy3 ho=>?_;obtain ⟨ta,ha,ho⟩:=bnd ho;refine glp ha [0,1,3,7] [] [0] (λs g=>([(8,vI s.1)],[(yv,K s.2 (untup (gh g 0)))])) (λb=>(.ret,λg=>([],[(yv,K b (untup (gh g 0)))]))) [.tuple γ0] (λsa gb _ ho=>?_) λga=>?_
 . obtain ⟨xa,he,ho⟩:=bnd ho;refine gcl ho λya hf ho=>?_;refine gcl ho λyb hg ho=>?_;obtain ⟨sb,hs39,ho⟩:=bnd ho;refine zdh (zsc (K:=K) 0 (zoR hs39) rfl rfl) ?_;obtain ⟨yc,hc,ho⟩:=bnd ho;refine zoQ [0] [] (λ_ h=>by cases h<;>exact ⟨by kernel_rfl,by kernel_rfl⟩) hcb hc rfl rfl rfl Oa (.n rfl) rfl rfl rfl (.t rfl) (.c (.t rfl) (.c (.t rfl) .n)) ?_;intro va;refine gct ho (λhd ho=>?_) λhd ho=>?_
   . exact lv [.tuple va] [0] ho
   . exact lv [.tuple va] [0] ho
 . cases ho; exact id (zP [0] [.tuple (untup (gh ga 0))] (.inr rfl) .n rfl Oa)
theorem zeA {σ τ:Type} {step:σ->(Int×Int)->Option (σ⊕τ)} {yv:zd} {K:σ⊕τ->List zd->Sx.Obj} (hcb:zr9 ktab yv (λx=>[.val (zh .i64) x.1,.val (zh .i64) x.2]) step K) {s_:σ} {e a d b c out} (ho:zH step s_ e a d b c=Ob out) (γ0:List zd):zfL ktab 43 [.raw yv,.val (zL (zL zl)) e,.val (zL (zh .i64)) a,.val (zL (zh .i64)) d,.val (zL (zh .i64)) b,.val (zL (zh .i64)) c] [(yv,K (.inl s_) γ0)] [] (λγ=>[(yv,K out γ)]):=
 zoS (zek hcb ho γ0)
instance i20 {f d a b from_4}:FI ktab 20 (zat f d a b from_4) [.val (zL zl) f,vI d,vI a,vI b,vI from_4] (λout=>[.val (zqK 43 [] [.val (zL (zL zl)) out.1,.val (zL (zh .i64)) out.2.1,.val (zL (zh .i64)) out.2.2.1,.val (zL (zh .i64)) out.d3.1,.val (zL (zh .i64)) out.d4]) ()]):=⟨λout ho=>by
 delta zat at ho;refine fn λ_ _=>?_;refine run 7 ?_;refine zau rfl (.n rfl) rfl (e:=.raw .nfz) (λz fr h s=>⟨_,rfl,by simp only [TE.ok]; rfl⟩) ?_;refine run 3 ?_;refine zi0 (.n rfl) rfl rfl .n (.c (.t rfl) (.c (.t rfl) (.c (.t rfl) (.c (.t rfl) (.c (.t rfl) .n))))) ?_;exact we ho⟩
instance i78 {a f_1}:FI ktab 78 (zaD a f_1) [.val (zb zam) a,.val (rFn ktab zad Bool (λx=>[.val zam x]) (λy=>[.val zw y])) f_1] (λout=>[wI out]):=⟨λout ho=>by
 delta zaD at ho;refine fn λ_ _=>?_;obtain ⟨ta,ha,ho⟩:=bnd ho;refine gl2 ha ho [0,1,7] [] [] (λs g=>([(8,vI s)],[])) (λb=>(.exit 0,λg=>([],[]))) (λb=>(.ret,λg=>([(4,vI b)],[]))) [] (λs5 g6 _ ho=>?_) (λba ho ga=>?_) λbb ho ga=>?_
 . refine gct ho (λhq7 ho=>?_) λhq7 ho=>?_
   . obtain ⟨x8,hx8,y9,hy9,ho⟩:=zff ho;refine gcv hy9 ?_;exact we ho
   . exact lv [] [] ho
 . exact we ho
 . exact rv ho⟩
instance i48 {a f_1}:FI ktab 48 (za1 a f_1) [.val (zb zam) a,.val (rFn ktab zad Bool (λx=>[.val zam x]) (λy=>[.val zw y])) f_1] (λout=>[wB out]):=fw
instance i49 {a p_1}:FI ktab 49 (zbL a p_1) [.val zam a,.val (zL zeC) p_1] (λout=>[wB out]):=fw
instance i47 {a e b d p_4}:FI ktab 47 (za3 a e b d p_4) [.val zeC a,.val (zL (zb zam)) e,.val (zL (zh .i64)) b,.val (zL (zL zl)) d,.val (zL (zh .i64)) p_4] (λout=>[wB out]):=⟨λout ho=>by
 delta za3 at ho;refine fn λ_ _=>?_;refine run 8 ?_;refine zeB (X:=zad) (Y:=Bool) (λx=>[.val zam x]) (λy=>[.val zw y]) (f:=(λx=>zbL x a)) (λx y hf=>i49.ok _ hf) rfl (.n rfl) rfl rfl .n (.c (.t rfl) .n) ?_;refine gcl ho λy1 hy1 ho=>?_;obtain ⟨c8,hc8,ho⟩:=bnd ho;refine run 3 ?_;refine gcx c8 [] [] (λt=>(.normal,λ_=>([(6,vB t)],[]))) ?_ λ_=>?_
 . exact we hc8
 . exact rv ho⟩
instance i22 {e d b w_3}:FI ktab 22 (zaE e d b w_3) [.val (zL zl) e,vI d,vI b,.val (zb zeC) w_3] (λout=>[wB out]):=⟨λout ho=>by
 delta zaE at ho;refine fn λ_ _=>?_;refine gcl ho λy4 hy4 ho=>?_;obtain ⟨x5,hx5,ho⟩:=bnd ho;refine gal λb6=>?_;refine run 1 ?_;refine zdh (zb8 (R:=zb zam) (a:=x5.1) 0 [9] (zz rfl) rfl rfl ⟨rfl,trivial⟩) ?_;refine run 4 ?_;refine zeB (X:=Works) (Y:=Bool) (λx=>[.val zeC x]) (λy=>[.val zw y]) (f:=(λx=>za3 x x5.1 b e d)) (λx y hf=>i47.ok _ hf) rfl (.n rfl) rfl rfl .n (.c (.t rfl) (.c (.t rfl) (.c (.t rfl) (.c (.t rfl) .n)))) ?_;exact we ho⟩
instance i79 {n_1}:FI ktab 79 (zay n_1) [.raw .nsz,vI n_1] (λout=>[.row z9 out]):=⟨λout ho=>by
 delta zay at ho;refine fn λ_ _=>?_;refine run 2 ?_;refine zeq (.n rfl) rfl rfl (.nil (R:=z9)) ?_;refine gct ho (λhq1 ho=>?_) λhq1 ho=>?_
 . refine run 1 ?_;cases ho
 . refine run 6 ?_;refine zjQ (et:=53) Z rfl (.n rfl) rfl rfl (.t rfl) ?_;refine run 1 ?_;refine zdh (zix z9 (n:=11) rfl) ?_;refine gct ho (λhq2 ho=>?_) λhq2 ho=>?_
   . refine run 3 ?_;refine zjQ (et:=53) Z rfl (.n rfl) rfl rfl (.t rfl) ?_;refine zsp (et:=53) (n:=4) Z Z (.n rfl) rfl rfl (.t rfl) (.t rfl) ?_;obtain ⟨x3,hx3,ho⟩:=bnd ho;refine run 1 ?_;refine zv7 is' iy' iz' Z rfl hx3 rfl (.n rfl) rfl rfl (.t rfl) (.t rfl) rfl ?_;intro v4;refine run 1 ?_;refine zdh (zix z9 (n:=23) rfl) ?_;obtain ⟨x5,hx5,ho⟩:=bnd ho;refine run 1 ?_;refine zv8 0 is' (zso hx5) (.n rfl) rfl rfl (.t rfl) rfl (.t rfl) rfl ?_;intro v6;exact we ho
   . refine run 6 ?_;cases ho;refine zm2 (zbN z9) ?_;exact zdR (zdd (.inr rfl) (.r 0 rfl rfl .n) Oa)⟩
instance i50 {slices_0}:FI ktab 50 (zaq slices_0) [.val (zb (zb z9)) slices_0] (λout=>[.row z9 out]):=⟨λout ho=>by
 delta zaq at ho;refine fn λ_ _=>?_;refine gnr z9 ?_;obtain ⟨t9,ht9,ho⟩:=bnd ho;refine glp ht9 [0,9,10] [] [] (λs g=>([(3,vI s.1),(11,vI s.2)],[])) (λb=>(.exit 0,λg=>([(3,vI b)],[]))) [] (λs4 g5 _ ho=>?_) λgb=>?_
 . refine gct ho (λhq6 ho=>?_) λhq6 ho=>?_
   . obtain ⟨x7,hx7,ho⟩:=bnd ho;refine gct ho (λhq8 ho=>?_) λhq8 ho=>?_
     . refine run 1 ?_;cases ho
     . exact we ho
   . exact lv [] [] ho
 . obtain ⟨ya,ha,ho⟩:=bnd ho;refine run 3 ?_;refine zfF (i79.ok _ ha) (.r (zcf zc9 (zcf zeX (zcf zc9 (zcf zc9 zg7)))) .n) rfl (.n rfl) rfl rfl rfl .f (.c (.o .nilr) (.c (.o (.t rfl)) .n)) ?_;intro va;show zm ..;obtain ⟨ta,hc,ho⟩:=bnd ho;refine glp hc [25,26] [] [0] (λs g=>([(6,.raw (gh g 0)),(27,vI s.2)],[(gh g 0,.row z9 s.1)])) (λb=>(.exit 2,λg=>([(6,.raw (gh g 0))],[(gh g 0,.row z9 b)]))) [va] (λsa ga _ ho=>?_) λgc=>?_
   . refine gct ho (λhd ho=>?_) λhd ho=>?_
     . obtain ⟨xa,he,xb,hf,ho⟩:=zff ho;refine gap λvb=>?_;exact lv [vb] [0] ho
     . exact lv [gh ga 0] [0] ho
   . exact we ho⟩
theorem zbA {c f e d out} (ho:zF c f e d=Ob out) (a:zd):zfL ktab 102 [.raw a,.val (zh .i64) f,.val (zh .i64) e,.val (rFn ktab (Trip×Trip) Int (λx=>[.val z9 x.1,.val z9 x.2]) (λy=>[.val (zh .i64) y])) d] [(a,.row z9 c)] [] (λγ=>[(a,.row z9 out)]):=by
 refine zco (F:=Tryz.f102) Om Om Om (λC=>?_);delta zF at ho;obtain ⟨ta,ha,ho⟩:=bnd ho;refine glp ha [0,1,2,3] [] [0] (λs g=>([(8,vI s.1)],[(a,.row z9 s.2)])) (λb=>(.exit 0,λg=>([],[(a,.row z9 b)]))) [] (λsa ga _ ho=>?_) λgb=>?_
 . refine gct ho (λhc ho=>?_) λhc ho=>?_
   . obtain ⟨tb,hd,ho⟩:=bnd ho;refine glp hd [0,1,2,3,8] [] [0] (λs g=>([(9,vI s.1)],[(a,.row z9 s.2)])) (λb=>(.exit 2,λg=>([],[(a,.row z9 b)]))) [] (λsb gc _ ho=>?_) λgd=>?_
     . refine run 2 ?_;refine zaK [8,13] Z ?_;refine wbr ho (λhe ho=>?_) λhe ho=>?_
       . obtain ⟨xa,hh,xb,hi,ya,hf,ho⟩:=zok ho;refine gcv hf ?_;refine gct ho (λhg ho=>?_) λhg ho=>?_
         . refine run 3 ?_;refine zaK [9,13] Z ?_;obtain ⟨xd,hj,xe,hk,ho⟩:=zff ho;refine run 14 ?_;obtain ⟨xf,hl,xg,hm,ho⟩:=zff ho;exact lv [] [0] ho
         . exact lv [] [0] ho
       . refine gk ?_;exact lv [] [0] ho
     . exact lv [] [0] ho
   . exact lv [] [0] ho
 . cases ho; exact id (zP [0] [] (.inl rfl) .n rfl Oa)
theorem za9 {a h f e c out} (ho:zp a h f e c=Ob out) (d:zd):zfL ktab 127 [.raw d,.val (zh .i64) h,.val (zh .i64) f,.val (zh .i64) e,.val (rFn ktab (Trip×Trip) Int (λx=>[.val z9 x.1,.val z9 x.2]) (λy=>[.val (zh .i64) y])) c] [(d,.row z9 a)] [] (λγ=>[(d,.row z9 out)]):=by
 refine zco (F:=Tryz.f127) Om Om Om (λC=>?_);delta zp at ho;obtain ⟨ta,ha,ho⟩:=bnd ho;refine glp ha [0,1,2,3] [] [0] (λs g=>([(10,vI s.1)],[(d,.row z9 s.2)])) (λb=>(.exit 0,λg=>([],[(d,.row z9 b)]))) [] (λsa ga _ ho=>?_) λgb=>?_
 . refine gct ho (λhc ho=>?_) λhc ho=>?_
   . refine run 3 ?_;refine zaK [13,19] Z ?_;obtain ⟨xa,hd,xb,he,ho⟩:=zff ho;refine run 20 ?_;obtain ⟨xd,hf,xe,hg,ho⟩:=zff ho;exact lv [] [0] ho
   . exact lv [] [0] ho
 . cases ho; exact id (zP [0] [] (.inl rfl) .n rfl Oa)
theorem zcn {c h f e d out} (ho:zZ c h f e d=Ob out) (a:zd):zfL ktab 118 [.raw a,.val (zh .i64) h,.val (zh .i64) f,.val (zh .i64) e,.val (rFn ktab (Trip×Trip) Int (λx=>[.val z9 x.1,.val z9 x.2]) (λy=>[.val (zh .i64) y])) d] [(a,.row z9 c)] [] (λγ=>[(a,.row z9 out)]):=by
 refine zco (F:=Tryz.f118) Om Om Om (λC=>?_);delta zZ at ho;obtain ⟨ta,ha,ho⟩:=bnd ho;refine glp ha [0,2,4] [] [0] (λs g=>([(10,vI s.1),(11,vI s.2.1)],[(a,.row z9 s.2.2)])) (λb=>(.exit 0,λg=>([(10,vI b.1)],[(a,.row z9 b.2)]))) [] (λsa ga _ ho=>?_) λgb=>?_
 . refine gct ho (λhc ho=>?_) λhc ho=>?_
   . refine gct ho (λhd ho=>?_) λhd ho=>?_
     . obtain ⟨ya,he,ho⟩:=bnd ho;refine gcm [0] [] (za9 he a) ?_;intro gc;show zm ..;exact lv [] [0] ho
     . obtain ⟨yb,hf,ho⟩:=bnd ho;refine gcm [0] [] (za9 hf a) ?_;intro gd;show zm ..;exact lv [] [0] ho
   . exact lv [] [0] ho
 . obtain ⟨yc,hg,ho⟩:=bnd ho;refine gcm [0] [] (za9 hg a) ?_;intro ge;show zm ..;cases ho; exact zdD (zP [0] [] (.inl rfl) .n rfl Oa)
end Go.Ai.TabYtnngmijajnldlaaGreat