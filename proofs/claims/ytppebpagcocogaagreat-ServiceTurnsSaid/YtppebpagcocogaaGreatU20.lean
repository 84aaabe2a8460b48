/- Written by program: walks through functions. -/
import Derived.Test.YtppebpagcocogaaGreatU11
import Derived.Test.YtppebpagcocogaaGreatU19
import Derived.Test.YtppebpagcocogaaGreatU17
set_option linter.unusedSimpArgs false
set_option linter.unusedVariables false
set_option linter.unusedSectionVars false
namespace Go.Ai.TabYtppebpagcocogaaGreat
open Go Go.Ai Go.Ai.Sx Go.Proofs
attribute [local irreducible] zo
set_option maxRecDepth 100000
set_option maxHeartbeats 4000000
instance i107 {r_0 side_1 headway_2 offset_3}:FI ktab 107 (zaT r_0 side_1 headway_2 offset_3) [.val (zaY zi) r_0,vI side_1,vI headway_2,vI offset_3] (λout=>[wI out]):=fw
instance i108 {n_0 h_1}:FI ktab 108 (zbh n_0 h_1) [vI n_0,vI h_1] (λout=>[wI out]):=fw
instance i137 {s_0 f_1}:FI ktab 137 (z4 s_0 f_1) [.val (zf zd6) s_0,.val (rFn ktab (Works) (Bool) (λx=>[.val zd6 (x)]) (λy=>[.val zaw (y)])) f_1] (λout=>[wI out]):=⟨λout ho=>by
 delta z4 at ho;refine fn λ_ _=>?_;obtain ⟨ta,ha,ho⟩:=bnd ho;refine gl2 ha ho [0,1,7] [] [] (λs g=>([(8,vI s)],[])) (λb=>(.exit 0,λg=>([],[]))) (λb=>(.ret,λg=>([(4,vI b)],[]))) [] (λs5 g6 _ ho=>?_) (λba ho ga=>?_) λbb ho ga=>?_
 . refine gct ho (λhq7 ho=>?_) λhq7 ho=>?_
   . obtain ⟨x8,hx8,y9,hy9,ho⟩:=zfP ho;refine gcv hy9 ?_;exact we ho
   . exact lv [] [] ho
 . exact we ho
 . exact rv ho⟩
instance i111 {s_0 f_1}:FI ktab 111 (zT s_0 f_1) [.val (zf zd6) s_0,.val (rFn ktab (Works) (Bool) (λx=>[.val zd6 (x)]) (λy=>[.val zaw (y)])) f_1] (λout=>[wB out]):=fw
instance i112 {x_0 p_1}:FI ktab 112 (zbx x_0 p_1) [.val zd6 x_0,.val (zaY zbl) p_1] (λout=>[wB out]):=⟨λout ho=>by
 delta zbx at ho;refine fn λ_ _=>?_;obtain ⟨c5,hc5,ho⟩:=bnd ho;refine run 6 ?_;refine gcx c5 [] [] (λt=>(.normal,λ_=>([(3,vB t)],[]))) ?_ λ_=>?_
 . exact we hc5
 . exact rv ho⟩
instance i79 {p_0 w_1}:FI ktab 79 (zcs p_0 w_1) [.val zbl p_0,.val (zf zd6) w_1] (λout=>[wB out]):=⟨λout ho=>by
 delta zcs at ho;refine fn λ_ _=>?_;obtain ⟨c3,hc3,ho⟩:=bnd ho;refine run 6 ?_;refine gcx c3 [] [] (λt=>(.normal,λ_=>([(4,vB t)],[]))) ?_ λ_=>?_
 . have ho:=hc3;refine wbr ho (λhb4 ho=>?_) λhb4 ho=>?_
   . refine run 6 ?_;refine zhL (X:=Works) (Y:=Bool) (λx=>[.val zd6 x]) (λy=>[.val zaw y]) (f:=(λx=>zbx x p_0)) (λx y hf=>i112.ok _ hf) rfl (.g rfl rfl (gt1 hb4)) rfl rfl .n (.c (.t rfl) .n) ?_;exact we ho
   . exact we ho
 . exact rv ho⟩
theorem zdI {σ τ:Type} {step:σ->(Int×Int)->Option (σ⊕τ)} {yv:zd} {K:σ⊕τ->List zd->Sx.Obj} (hcb:zqK ktab yv (λx=>[.val (zj .i64) (x.1),.val (zj .i64) (x.2)]) step K) {s_:σ} {p_1 p_2 p_3 p_4 p_5 out} (ho:zF step s_ p_1 p_2 p_3 p_4 p_5=some out) (γ0:List zd):zhM ktab 113 [.raw yv,.val (zaY (zaY zi)) p_1,.val (zaY (zj .i64)) p_2,.val (zaY (zj .i64)) p_3,.val (zaY (zj .i64)) p_4,.val (zaY (zj .i64)) p_5] [(yv,K (.inl s_) γ0)] [] (λγ=>[(yv,K (out) (untup (gh γ 0)))]):=by
 refine zeK (F:=Tryz.f113) (by rfl) (by rfl) (by rfl) (λC=>?_);delta zF at ho;refine gcl ho λy1 hy1 ho=>?_;refine gcl ho λy3 hy3 ho=>?_;obtain ⟨ta,ha,ho⟩:=bnd ho;refine glp ha [0,1,3,7] [] [0] (λs g=>([(8,vI s.1)],[(yv,K s.2 (untup (gh g 0)))])) (λb=>(.ret,λg=>([],[(yv,K b (untup (gh g 0)))]))) [.tuple γ0] (λsa gb _ ho=>?_) λga=>?_
 . obtain ⟨xa,he,ho⟩:=bnd ho;refine gcl ho λya hf ho=>?_;refine gcl ho λyb hg ho=>?_;obtain ⟨sb,hs39,ho⟩:=bnd ho;refine zfW (zqN (K:=K) 0 (znL hs39) rfl rfl) ?_;obtain ⟨yc,hc,ho⟩:=bnd ho;refine znK [0] [] (λ_ h=>by cases h<;>exact ⟨by kernel_rfl,by kernel_rfl⟩) hcb hc rfl rfl rfl (by decide) (.n rfl) rfl rfl rfl (.t rfl) (.c (.t rfl) (.c (.t rfl) .n)) ?_;intro va;refine gct ho (λhd ho=>?_) λhd ho=>?_
   . exact lv [.tuple va] [0] ho
   . exact lv [.tuple va] [0] ho
 . cases ho; exact id (za1 [0] [.tuple (untup (gh ga 0))] (.inr rfl) .n rfl (by decide))
theorem zd3 {σ τ:Type} {step:σ->(Int×Int)->Option (σ⊕τ)} {yv:zd} {K:σ⊕τ->List zd->Sx.Obj} (hcb:zqK ktab yv (λx=>[.val (zj .i64) (x.1),.val (zj .i64) (x.2)]) step K) {s_:σ} {p_1 p_2 p_3 p_4 p_5 out} (ho:zF step s_ p_1 p_2 p_3 p_4 p_5=some out) (γ0:List zd):zhM ktab 113 [.raw yv,.val (zaY (zaY zi)) p_1,.val (zaY (zj .i64)) p_2,.val (zaY (zj .i64)) p_3,.val (zaY (zj .i64)) p_4,.val (zaY (zj .i64)) p_5] [(yv,K (.inl s_) γ0)] [] (λγ=>[(yv,K (out) γ)]):=
 znM (zdI hcb ho γ0)
instance i80 {r_0 side_1 headway_2 offset_3 from_4}:FI ktab 80 (zak r_0 side_1 headway_2 offset_3 from_4) [.val (zaY zi) r_0,vI side_1,vI headway_2,vI offset_3,vI from_4] (λout=>[.val (zsm 113 [] [.val (zaY (zaY zi)) out.1,.val (zaY (zj .i64)) out.2.1,.val (zaY (zj .i64)) out.2.2.1,.val (zaY (zj .i64)) out.2.2.2.1,.val (zaY (zj .i64)) out.2.2.2.2]) ()]):=⟨λout ho=>by
 delta zak at ho;refine fn λ_ _=>?_;refine run 7 ?_;refine zap rfl (.n rfl) rfl (e:=.raw .nilfunc) (λz fr h s=>⟨_,rfl,by simp only [TE.ok]; rfl⟩) ?_;refine run 3 ?_;refine znI (.n rfl) rfl rfl .n (.c (.t rfl) (.c (.t rfl) (.c (.t rfl) (.c (.t rfl) (.c (.t rfl) .n))))) ?_;exact we ho⟩
instance i138 {s_0 f_1}:FI ktab 138 (zat s_0 f_1) [.val (zf zR) s_0,.val (rFn ktab (zH) (Bool) (λx=>[.val zR (x)]) (λy=>[.val zaw (y)])) f_1] (λout=>[wI out]):=⟨λout ho=>by
 delta zat at ho;refine fn λ_ _=>?_;obtain ⟨ta,ha,ho⟩:=bnd ho;refine gl2 ha ho [0,1,7] [] [] (λs g=>([(8,vI s)],[])) (λb=>(.exit 0,λg=>([],[]))) (λb=>(.ret,λg=>([(4,vI b)],[]))) [] (λs5 g6 _ ho=>?_) (λba ho ga=>?_) λbb ho ga=>?_
 . refine gct ho (λhq7 ho=>?_) λhq7 ho=>?_
   . obtain ⟨x8,hx8,y9,hy9,ho⟩:=zfP ho;refine gcv hy9 ?_;exact we ho
   . exact lv [] [] ho
 . exact we ho
 . exact rv ho⟩
instance i115 {s_0 f_1}:FI ktab 115 (zaL s_0 f_1) [.val (zf zR) s_0,.val (rFn ktab (zH) (Bool) (λx=>[.val zR (x)]) (λy=>[.val zaw (y)])) f_1] (λout=>[wB out]):=fw
instance i116 {m_0 p_1}:FI ktab 116 (zbB m_0 p_1) [.val zR m_0,.val (zaY zd6) p_1] (λout=>[wB out]):=fw
instance i114 {x_0 p_1 p_2 p_3 p_4}:FI ktab 114 (zaO x_0 p_1 p_2 p_3 p_4) [.val zd6 x_0,.val (zaY (zf zR)) p_1,.val (zaY (zj .i64)) p_2,.val (zaY (zaY zi)) p_3,.val (zaY (zj .i64)) p_4] (λout=>[wB out]):=⟨λout ho=>by
 delta zaO at ho;refine fn λ_ _=>?_;refine run 8 ?_;refine zhL (X:=zH) (Y:=Bool) (λx=>[.val zR x]) (λy=>[.val zaw y]) (f:=(λx=>zbB x x_0)) (λx y hf=>i116.ok _ hf) rfl (.n rfl) rfl rfl .n (.c (.t rfl) .n) ?_;refine gcl ho λy1 hy1 ho=>?_;obtain ⟨c8,hc8,ho⟩:=bnd ho;refine run 3 ?_;refine gcx c8 [] [] (λt=>(.normal,λ_=>([(6,vB t)],[]))) ?_ λ_=>?_
 . exact we hc8
 . exact rv ho⟩
instance i82 {r_0 side_1 depart_2 w_3}:FI ktab 82 (zau r_0 side_1 depart_2 w_3) [.val (zaY zi) r_0,vI side_1,vI depart_2,.val (zf zd6) w_3] (λout=>[wB out]):=⟨λout ho=>by
 delta zau at ho;refine fn λ_ _=>?_;refine gcl ho λy4 hy4 ho=>?_;obtain ⟨x5,hx5,ho⟩:=bnd ho;refine gal λb6=>?_;refine run 1 ?_;refine zfW (zdB (R:=(zf zR)) (a:=x5.1) 0 [9] (zE rfl) rfl rfl ⟨rfl,trivial⟩) ?_;refine run 4 ?_;refine zhL (X:=Works) (Y:=Bool) (λx=>[.val zd6 x]) (λy=>[.val zaw y]) (f:=(λx=>zaO x x5.1 depart_2 r_0 side_1)) (λx y hf=>i114.ok _ hf) rfl (.n rfl) rfl rfl .n (.c (.t rfl) (.c (.t rfl) (.c (.t rfl) (.c (.t rfl) .n)))) ?_;exact we ho⟩
instance i139 {n_1}:FI ktab 139 (zao n_1) [.raw .nilslice,vI n_1] (λout=>[.row z7 out]):=⟨λout ho=>by
 delta zao at ho;refine fn λ_ _=>?_;refine run 2 ?_;refine zdO (.n rfl) rfl rfl (.nil (R:=z7)) ?_;refine gct ho (λhq1 ho=>?_) λhq1 ho=>?_
 . refine run 1 ?_;cases ho
 . refine run 6 ?_;refine zi2 (et:=72) (by kernel_rfl) rfl (.n rfl) rfl rfl (.t rfl) ?_;refine run 1 ?_;refine zfW (zhO z7 (n:=11) rfl) ?_;refine gct ho (λhq2 ho=>?_) λhq2 ho=>?_
   . refine run 3 ?_;refine zi2 (et:=72) (by kernel_rfl) rfl (.n rfl) rfl rfl (.t rfl) ?_;refine zq0 (et:=72) (n:=4) (by kernel_rfl) (by kernel_rfl) (.n rfl) rfl rfl (.t rfl) (.t rfl) ?_;obtain ⟨x3,hx3,ho⟩:=bnd ho;refine run 1 ?_;refine zux is' iy' iz' (by kernel_rfl) rfl hx3 rfl (.n rfl) rfl rfl (.t rfl) (.t rfl) rfl ?_;intro v4;refine run 1 ?_;refine zfW (zhO z7 (n:=23) rfl) ?_;obtain ⟨x5,hx5,ho⟩:=bnd ho;refine run 1 ?_;refine zuy 0 is' (zqZ hx5) (.n rfl) rfl rfl (.t rfl) rfl (.t rfl) rfl ?_;intro v6;exact we ho
   . refine run 6 ?_;cases ho;refine znF (zes z7) ?_;exact zeQ (zdg (.inr rfl) (.r 0 rfl rfl .n) (by decide))⟩
instance i118 {slices_0}:FI ktab 118 (zaj slices_0) [.val (zf (zf z7)) slices_0] (λout=>[.row z7 out]):=⟨λout ho=>by
 delta zaj at ho;refine fn λ_ _=>?_;refine gnr z7 ?_;obtain ⟨t9,ht9,ho⟩:=bnd ho;refine glp ht9 [0,9,10] [] [] (λs g=>([(3,vI s.1),(11,vI s.2)],[])) (λb=>(.exit 0,λg=>([(3,vI b)],[]))) [] (λs4 g5 _ ho=>?_) λgb=>?_
 . refine gct ho (λhq6 ho=>?_) λhq6 ho=>?_
   . obtain ⟨x7,hx7,ho⟩:=bnd ho;refine gct ho (λhq8 ho=>?_) λhq8 ho=>?_
     . refine run 1 ?_;cases ho
     . exact we ho
   . exact lv [] [] ho
 . obtain ⟨ya,ha,ho⟩:=bnd ho;refine run 3 ?_;refine zgv (i139.ok _ ha) (.r (zbZ zcO (zbZ zfK (zbZ zcO (zbZ zcO zgu)))) .n) rfl (.n rfl) rfl rfl rfl .f (.c (.o .nilr) (.c (.o (.t rfl)) .n)) ?_;intro va;show zo ..;obtain ⟨ta,hc,ho⟩:=bnd ho;refine glp hc [25,26] [] [0] (λs g=>([(6,.raw (gh g 0)),(27,vI s.2)],[((gh g 0),.row z7 s.1)])) (λb=>(.exit 2,λg=>([(6,.raw (gh g 0))],[((gh g 0),.row z7 b)]))) [va] (λsa ga _ ho=>?_) λgc=>?_
   . refine gct ho (λhd ho=>?_) λhd ho=>?_
     . obtain ⟨xa,he,xb,hf,ho⟩:=zfP ho;refine gap λvb=>?_;exact lv [vb] [0] ho
     . exact lv [(gh ga 0)] [0] ho
   . exact we ho⟩
theorem zbp {data_0 a_1 b_2 cmp_3 out} (ho:zD data_0 a_1 b_2 cmp_3=some out) (v_0:zd):zhM ktab 168 [.raw v_0,.val (zj .i64) a_1,.val (zj .i64) b_2,.val (rFn ktab (Trip×Trip) (Int) (λx=>[.val z7 (x.1),.val z7 (x.2)]) (λy=>[.val (zj .i64) (y)])) cmp_3] [(v_0,.row z7 (data_0))] [] (λγ=>[(v_0,.row z7 (out))]):=by
 refine zeK (F:=Tryz.f168) (by rfl) (by rfl) (by rfl) (λC=>?_);delta zD at ho;obtain ⟨ta,ha,ho⟩:=bnd ho;refine glp ha [0,1,2,3] [] [0] (λs g=>([(8,vI s.1)],[(v_0,.row z7 s.2)])) (λb=>(.exit 0,λg=>([],[(v_0,.row z7 b)]))) [] (λsa ga _ ho=>?_) λgb=>?_
 . refine gct ho (λhc ho=>?_) λhc ho=>?_
   . obtain ⟨tb,hd,ho⟩:=bnd ho;refine glp hd [0,1,2,3,8] [] [0] (λs g=>([(9,vI s.1)],[(v_0,.row z7 s.2)])) (λb=>(.exit 2,λg=>([],[(v_0,.row z7 b)]))) [] (λsb gc _ ho=>?_) λgd=>?_
     . refine run 2 ?_;refine zaA [8,13] (by kernel_rfl) ?_;refine wbr ho (λhe ho=>?_) λhe ho=>?_
       . obtain ⟨xa,hh,xb,hi,ya,hf,ho⟩:=zpT ho;refine gcv hf ?_;refine gct ho (λhg ho=>?_) λhg ho=>?_
         . refine run 3 ?_;refine zaA [9,13] (by kernel_rfl) ?_;obtain ⟨xd,hj,xe,hk,ho⟩:=zfP ho;refine run 14 ?_;obtain ⟨xf,hl,xg,hm,ho⟩:=zfP ho;exact lv [] [0] ho
         . exact lv [] [0] ho
       . refine gk ?_;exact lv [] [0] ho
     . exact lv [] [0] ho
   . exact lv [] [0] ho
 . cases ho; exact id (za1 [0] [] (.inl rfl) .n rfl (by decide))
theorem zaS {data_0 a_1 b_2 n_3 cmp_4 out} (ho:zn data_0 a_1 b_2 n_3 cmp_4=some out) (v_0:zd):zhM ktab 191 [.raw v_0,.val (zj .i64) a_1,.val (zj .i64) b_2,.val (zj .i64) n_3,.val (rFn ktab (Trip×Trip) (Int) (λx=>[.val z7 (x.1),.val z7 (x.2)]) (λy=>[.val (zj .i64) (y)])) cmp_4] [(v_0,.row z7 (data_0))] [] (λγ=>[(v_0,.row z7 (out))]):=by
 refine zeK (F:=Tryz.f191) (by rfl) (by rfl) (by rfl) (λC=>?_);delta zn at ho;obtain ⟨ta,ha,ho⟩:=bnd ho;refine glp ha [0,1,2,3] [] [0] (λs g=>([(10,vI s.1)],[(v_0,.row z7 s.2)])) (λb=>(.exit 0,λg=>([],[(v_0,.row z7 b)]))) [] (λsa ga _ ho=>?_) λgb=>?_
 . refine gct ho (λhc ho=>?_) λhc ho=>?_
   . refine run 3 ?_;refine zaA [13,19] (by kernel_rfl) ?_;obtain ⟨xa,hd,xb,he,ho⟩:=zfP ho;refine run 20 ?_;obtain ⟨xd,hf,xe,hg,ho⟩:=zfP ho;exact lv [] [0] ho
   . exact lv [] [0] ho
 . cases ho; exact id (za1 [0] [] (.inl rfl) .n rfl (by decide))
theorem zb3 {data_0 a_1 m_2 b_3 cmp_4 out} (ho:zX data_0 a_1 m_2 b_3 cmp_4=some out) (v_0:zd):zhM ktab 180 [.raw v_0,.val (zj .i64) a_1,.val (zj .i64) m_2,.val (zj .i64) b_3,.val (rFn ktab (Trip×Trip) (Int) (λx=>[.val z7 (x.1),.val z7 (x.2)]) (λy=>[.val (zj .i64) (y)])) cmp_4] [(v_0,.row z7 (data_0))] [] (λγ=>[(v_0,.row z7 (out))]):=by
 refine zeK (F:=Tryz.f180) (by rfl) (by rfl) (by rfl) (λC=>?_);delta zX at ho;obtain ⟨ta,ha,ho⟩:=bnd ho;refine glp ha [0,2,4] [] [0] (λs g=>([(10,vI s.1),(11,vI s.2.1)],[(v_0,.row z7 s.2.2)])) (λb=>(.exit 0,λg=>([(10,vI b.1)],[(v_0,.row z7 b.2)]))) [] (λsa ga _ ho=>?_) λgb=>?_
 . refine gct ho (λhc ho=>?_) λhc ho=>?_
   . refine gct ho (λhd ho=>?_) λhd ho=>?_
     . obtain ⟨ya,he,ho⟩:=bnd ho;refine gcm [0] [] (zaS he v_0) ?_;intro gc;show zo ..;exact lv [] [0] ho
     . obtain ⟨yb,hf,ho⟩:=bnd ho;refine gcm [0] [] (zaS hf v_0) ?_;intro gd;show zo ..;exact lv [] [0] ho
   . exact lv [] [0] ho
 . obtain ⟨yc,hg,ho⟩:=bnd ho;refine gcm [0] [] (zaS hg v_0) ?_;intro ge;show zo ..;cases ho; exact zfa (za1 [0] [] (.inl rfl) .n rfl (by decide))
end Go.Ai.TabYtppebpagcocogaaGreat