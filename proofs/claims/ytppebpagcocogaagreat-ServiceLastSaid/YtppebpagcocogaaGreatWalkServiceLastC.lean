/- Written by program: walks through functions. -/
import Derived.Test.YtppebpagcocogaaGreatS11
import Derived.Test.YtppebpagcocogaaGreatS20
import Derived.Test.YtppebpagcocogaaGreatS16
import Derived.Test.YtppebpagcocogaaGreatS19
import Derived.Test.YtppebpagcocogaaGreatS17
set_option linter.unusedSimpArgs false
set_option linter.unusedVariables false
set_option linter.unusedSectionVars false
namespace Go.Ai.TabYtppebpagcocogaaGreat
open Go Go.Ai Go.Ai.Sx Go.Proofs
attribute [local irreducible] zq
set_option maxRecDepth 100000
set_option maxHeartbeats 4000000
instance i68 {p_0 l_1 home_2}:FI ktab 68 (zas p_0 l_1 home_2) [.val zaf p_0,.val zbK l_1,vB home_2] (fun out=>[wI out]):=⟨fun out ho=>by
 delta zas at ho;refine fn fun _ _=>?_;refine gcl ho fun y1 hy1 ho=>?_;intro v2;exact we ho⟩
instance i25 {p_0 l_1}:FI ktab 25 (zcy p_0 l_1) [.val zaf p_0,.val zbK l_1] (fun out=>[wI out]):=fw
instance i107 {r_0 side_1 headway_2 offset_3}:FI ktab 107 (z4 r_0 side_1 headway_2 offset_3) [.val (zaQ zg) r_0,vI side_1,vI headway_2,vI offset_3] (fun out=>[wI out]):=fw
instance i108 {n_0 h_1}:FI ktab 108 (zat n_0 h_1) [vI n_0,vI h_1] (fun out=>[wI out]):=fw
instance i39 {a_0 n_1}:FI ktab 39 (zaL a_0 n_1) [vI a_0,vI n_1] (fun out=>[wI out]):=fw
instance i78 {p_0 l_1 h_2}:FI ktab 78 (zcz p_0 l_1 h_2) [.val zaf p_0,.val zbK l_1,vI h_2] (fun out=>[wI out]):=fw
instance i38 {p_0 s_1 line_2 home_3}:FI ktab 38 (z8 p_0 s_1 line_2 home_3) [.val zaf p_0,.val zac s_1,vI line_2,vB home_3] (fun out=>[wI out]):=⟨fun out ho=>by
 delta z8 at ho;refine fn fun _ _=>?_;obtain ⟨x1,hx1,ho⟩:=bnd ho;refine gal fun b2=>?_;refine gfz 1 zbK x1 0 [9] ?_;exact we ho⟩
instance i137 {s_0 f_1}:FI ktab 137 (zZ s_0 f_1) [.val (zf zcu) s_0,.val (rFn ktab (Works) (Bool) (fun x=>[.val zcu (x)]) (fun y=>[.val zab (y)])) f_1] (fun out=>[wI out]):=⟨fun out ho=>by
 delta zZ at ho;refine fn fun _ _=>?_;obtain ⟨ta,ha,ho⟩:=bnd ho;refine gl2 ha ho [0,1,7] [] [] (fun s g=>([(8,vI s)],[])) (fun b=>(.exit 0,fun g=>([],[]))) (fun b=>(.ret,fun g=>([(4,vI b)],[]))) [] (fun s5 g6 _ ho=>?_) (fun ba ho ga=>?_) fun bb ho ga=>?_
 ·refine gct ho (fun hq7 ho=>?_) fun hq7 ho=>?_
  ·obtain ⟨x8,hx8,y9,hy9,ho⟩:=zfX ho;refine gcv hy9 ?_;exact we ho
  ·exact lv [] [] ho
 ·exact we ho
 ·exact rv ho⟩
instance i111 {s_0 f_1}:FI ktab 111 (zT s_0 f_1) [.val (zf zcu) s_0,.val (rFn ktab (Works) (Bool) (fun x=>[.val zcu (x)]) (fun y=>[.val zab (y)])) f_1] (fun out=>[wB out]):=fw
instance i112 {x_0 p_1}:FI ktab 112 (zbI x_0 p_1) [.val zcu x_0,.val (zaQ zaf) p_1] (fun out=>[wB out]):=⟨fun out ho=>by
 delta zbI at ho;refine fn fun _ _=>?_;obtain ⟨c5,hc5,ho⟩:=bnd ho;refine run 6 ?_;refine gcx c5 [] [] (fun t=>(.normal,fun _=>([(3,vB t)],[]))) ?_ fun _=>?_
 ·exact we hc5
 ·exact rv ho⟩
instance i79 {p_0 w_1}:FI ktab 79 (zcg p_0 w_1) [.val zaf p_0,.val (zf zcu) w_1] (fun out=>[wB out]):=⟨fun out ho=>by
 delta zcg at ho;refine fn fun _ _=>?_;obtain ⟨c3,hc3,ho⟩:=bnd ho;refine run 6 ?_;refine gcx c3 [] [] (fun t=>(.normal,fun _=>([(4,vB t)],[]))) ?_ fun _=>?_
 ·have ho:=hc3;refine wbr ho (fun hb4 ho=>?_) fun hb4 ho=>?_
  ·refine run 6 ?_;refine zgM (X:=Works) (Y:=Bool) (fun x=>[.val zcu x]) (fun y=>[.val zab y]) (f:=(fun x=>zbI x p_0)) (fun x y hf=>i112.ok _ hf) rfl (.g rfl rfl (gt1 hb4)) rfl rfl .n (.c (.t rfl) .n) ?_;exact we ho
  ·exact we ho
 ·exact rv ho⟩
theorem zd6 {σ τ:Type} {step:σ->(Int×Int)->Option (σ⊕τ)} {yv:ze} {K:σ⊕τ->List ze->Sx.Obj} (hcb:zrB ktab yv (fun x=>[.val (zj .i64) (x.1),.val (zj .i64) (x.2)]) step K) {s_:σ} {p_1 p_2 p_3 p_4 p_5 out} (ho:zae step s_ p_1 p_2 p_3 p_4 p_5=some out) (γ0:List ze):zkI ktab 113 [.raw yv,.val (zaQ (zaQ zg)) p_1,.val (zaQ (zj .i64)) p_2,.val (zaQ (zj .i64)) p_3,.val (zaQ (zj .i64)) p_4,.val (zaQ (zj .i64)) p_5] [(yv,K (.inl s_) γ0)] [] (fun γ=>[(yv,K (out) (untup (gh γ 0)))]):=by
 refine ziA (F:=Tryz.f113) (by rfl) (by rfl) (by rfl) (fun C=>?_);delta zae at ho;refine gcl ho fun y1 hy1 ho=>?_;refine gcl ho fun y3 hy3 ho=>?_;obtain ⟨ta,ha,ho⟩:=bnd ho;refine glp ha [0,1,3,7] [] [0] (fun s g=>([(8,vI s.1)],[(yv,K s.2 (untup (gh g 0)))])) (fun b=>(.ret,fun g=>([],[(yv,K b (untup (gh g 0)))]))) [.tuple γ0] (fun sa gb _ ho=>?_) fun ga=>?_
 ·obtain ⟨xa,he,ho⟩:=bnd ho;refine gcl ho fun ya hf ho=>?_;refine gcl ho fun yb hg ho=>?_;obtain ⟨sb,hs39,ho⟩:=bnd ho;refine zgz (zrE (K:=K) 0 (zox hs39) rfl rfl) ?_;obtain ⟨yc,hc,ho⟩:=bnd ho;refine zow [0] [] (fun _ h=>by cases h<;>exact ⟨by kernel_rfl,by kernel_rfl⟩) hcb hc rfl rfl rfl (by decide) (.n rfl) rfl rfl rfl (.t rfl) (.c (.t rfl) (.c (.t rfl) .n)) ?_;intro va;refine gct ho (fun hd ho=>?_) fun hd ho=>?_
  ·exact lv [.tuple va] [0] ho
  ·exact lv [.tuple va] [0] ho
 ·cases ho; exact id (zgO [0] [.tuple (untup (gh ga 0))] (.inr rfl) .n rfl (by decide))
theorem zeo {σ τ:Type} {step:σ->(Int×Int)->Option (σ⊕τ)} {yv:ze} {K:σ⊕τ->List ze->Sx.Obj} (hcb:zrB ktab yv (fun x=>[.val (zj .i64) (x.1),.val (zj .i64) (x.2)]) step K) {s_:σ} {p_1 p_2 p_3 p_4 p_5 out} (ho:zae step s_ p_1 p_2 p_3 p_4 p_5=some out) (γ0:List ze):zkI ktab 113 [.raw yv,.val (zaQ (zaQ zg)) p_1,.val (zaQ (zj .i64)) p_2,.val (zaQ (zj .i64)) p_3,.val (zaQ (zj .i64)) p_4,.val (zaQ (zj .i64)) p_5] [(yv,K (.inl s_) γ0)] [] (fun γ=>[(yv,K (out) γ)]):=
 zoy (zd6 hcb ho γ0)
instance i80 {r_0 side_1 headway_2 offset_3 from_4}:FI ktab 80 (zbd r_0 side_1 headway_2 offset_3 from_4) [.val (zaQ zg) r_0,vI side_1,vI headway_2,vI offset_3,vI from_4] (fun out=>[.val (ztn 113 [] [.val (zaQ (zaQ zg)) out.1,.val (zaQ (zj .i64)) out.2.1,.val (zaQ (zj .i64)) out.2.2.1,.val (zaQ (zj .i64)) out.2.2.2.1,.val (zaQ (zj .i64)) out.2.2.2.2]) ()]):=⟨fun out ho=>by
 delta zbd at ho;refine fn fun _ _=>?_;refine run 7 ?_;refine zai rfl (.n rfl) rfl (e:=.raw .nilfunc) (fun z fr h s=>⟨_,rfl,by simp only [TE.ok]; rfl⟩) ?_;refine run 3 ?_;refine zou (.n rfl) rfl rfl .n (.c (.t rfl) (.c (.t rfl) (.c (.t rfl) (.c (.t rfl) (.c (.t rfl) .n))))) ?_;exact we ho⟩
instance i138 {s_0 f_1}:FI ktab 138 (zaA s_0 f_1) [.val (zf zJ) s_0,.val (rFn ktab (zG) (Bool) (fun x=>[.val zJ (x)]) (fun y=>[.val zab (y)])) f_1] (fun out=>[wI out]):=⟨fun out ho=>by
 delta zaA at ho;refine fn fun _ _=>?_;obtain ⟨ta,ha,ho⟩:=bnd ho;refine gl2 ha ho [0,1,7] [] [] (fun s g=>([(8,vI s)],[])) (fun b=>(.exit 0,fun g=>([],[]))) (fun b=>(.ret,fun g=>([(4,vI b)],[]))) [] (fun s5 g6 _ ho=>?_) (fun ba ho ga=>?_) fun bb ho ga=>?_
 ·refine gct ho (fun hq7 ho=>?_) fun hq7 ho=>?_
  ·obtain ⟨x8,hx8,y9,hy9,ho⟩:=zfX ho;refine gcv hy9 ?_;exact we ho
  ·exact lv [] [] ho
 ·exact we ho
 ·exact rv ho⟩
instance i115 {s_0 f_1}:FI ktab 115 (zaU s_0 f_1) [.val (zf zJ) s_0,.val (rFn ktab (zG) (Bool) (fun x=>[.val zJ (x)]) (fun y=>[.val zab (y)])) f_1] (fun out=>[wB out]):=fw
instance i116 {m_0 p_1}:FI ktab 116 (zbP m_0 p_1) [.val zJ m_0,.val (zaQ zcu) p_1] (fun out=>[wB out]):=fw
instance i114 {x_0 p_1 p_2 p_3 p_4}:FI ktab 114 (zaZ x_0 p_1 p_2 p_3 p_4) [.val zcu x_0,.val (zaQ (zf zJ)) p_1,.val (zaQ (zj .i64)) p_2,.val (zaQ (zaQ zg)) p_3,.val (zaQ (zj .i64)) p_4] (fun out=>[wB out]):=⟨fun out ho=>by
 delta zaZ at ho;refine fn fun _ _=>?_;refine run 8 ?_;refine zgM (X:=zG) (Y:=Bool) (fun x=>[.val zJ x]) (fun y=>[.val zab y]) (f:=(fun x=>zbP x x_0)) (fun x y hf=>i116.ok _ hf) rfl (.n rfl) rfl rfl .n (.c (.t rfl) .n) ?_;refine gcl ho fun y1 hy1 ho=>?_;obtain ⟨c8,hc8,ho⟩:=bnd ho;refine run 3 ?_;refine gcx c8 [] [] (fun t=>(.normal,fun _=>([(6,vB t)],[]))) ?_ fun _=>?_
 ·exact we hc8
 ·exact rv ho⟩
instance i82 {r_0 side_1 depart_2 w_3}:FI ktab 82 (zba r_0 side_1 depart_2 w_3) [.val (zaQ zg) r_0,vI side_1,vI depart_2,.val (zf zcu) w_3] (fun out=>[wB out]):=⟨fun out ho=>by
 delta zba at ho;refine fn fun _ _=>?_;refine gcl ho fun y4 hy4 ho=>?_;obtain ⟨x5,hx5,ho⟩:=bnd ho;refine gal fun b6=>?_;refine run 1 ?_;refine zgz (zey (R:=(zf zJ)) (a:=x5.1) 0 [9] (zE rfl) rfl rfl ⟨rfl,trivial⟩) ?_;refine run 4 ?_;refine zgM (X:=Works) (Y:=Bool) (fun x=>[.val zcu x]) (fun y=>[.val zab y]) (f:=(fun x=>zaZ x x5.1 depart_2 r_0 side_1)) (fun x y hf=>i114.ok _ hf) rfl (.n rfl) rfl rfl .n (.c (.t rfl) (.c (.t rfl) (.c (.t rfl) (.c (.t rfl) .n)))) ?_;exact we ho⟩
instance i40 {p_0 s_1 w_2 line_3 home_4 before_5}:FI ktab 40 (zca p_0 s_1 w_2 line_3 home_4 before_5) [.val zaf p_0,.val zac s_1,.val (zf zcu) w_2,vI line_3,vB home_4,vI before_5] (fun out=>[.val zhE out.1,wI out.2]):=⟨fun out ho=>by
 delta zca at ho;refine fn fun _ _=>?_;refine gal fun b1=>?_;refine gcl ho fun y2 hy2 ho=>?_;obtain ⟨c9,hc9,ho⟩:=bnd ho;refine run 8 ?_;refine gcx c9 [7,8,9,10,11,12,14] [0] (fun t=>(.normal,fun _=>([(48,vB t)],[]))) ?_ fun _=>?_
 ·have ho:=hc9;refine wbr ho (fun hc ho=>?_) fun hc ho=>?_
  ·exact lv [] [0] ho
  ·refine gcl ho fun ya hk ho=>?_;refine wbr ho (fun hd ho=>?_) fun hd ho=>?_
   ·exact lv [] [0] ho
   ·refine gcl ho fun yb hl ho=>?_;refine wbr ho (fun he ho=>?_) fun he ho=>?_
    ·exact lv [] [0] ho
    ·refine gcl ho fun yc hm ho=>?_;exact lv [] [0] ho
 ·refine gct ho (fun hf ho=>?_) fun hf ho=>?_
  ·exact we ho
  ·obtain ⟨xa,hn,ho⟩:=bnd ho;refine gal fun be=>?_;refine run 1 ?_;refine zgz (zey (R:=(zaQ zg)) (a:=xa) 0 [16] (zE rfl) rfl rfl ⟨rfl,trivial⟩) ?_;refine gal fun bc=>?_;refine gal fun bd=>?_;refine gcl ho fun yd hp ho=>?_;obtain ⟨xb,hr,xd,hs,ho⟩:=zfX ho;refine gcl ho fun ye ht ho=>?_;obtain ⟨ta,ha,ho⟩:=bnd ho;refine run 2 ?_;refine zrD (σ:=(Bool×Int×Bool×Int×Int)) (τ:=(Bool×Int×Bool×Int×Int)) (X:=(Int×Int)) (ins:=(fun x=>[.val (zj .i64) x.1,.val (zj .i64) x.2])) (zzX (fun s g=>[(.ptr bd 0,.box [vB s.1]),(.ptr bc 0,.box [vI s.2.1,vB s.2.2.1,vI s.2.2.2.1,vI s.2.2.2.2]),(.ptr b1 0,.box [vI 0,vB false,vI 0,vI 0])]) (fun t g=>[(.ptr bd 0,.box [vB t.1]),(.ptr bc 0,.box [vI t.2.1,vB t.2.2.1,vI t.2.2.2.1,vI t.2.2.2.2]),(.ptr b1 0,.box [vI 0,vB false,vI 0,vI 0])])) (fun _=>some 0) (s0:=(false,0,false,0,0)) (r:=ta) [] [0,1,2] [] rfl (.t rfl) rfl rfl (by decide) (fun _=>rfl) (fun yv K hcb γ=>zeo hcb ha γ) ?_ ?_
   ·clear ho ha;intro sa ga xe r63 ho C;refine run 6 ?_;refine zix (fun fr h s=>And.intro rfl (Exists.intro _ (Exists.intro _ (And.intro s (fun C=>?_)))));refine gcl ho fun yf hu ho=>?_;refine gcl ho fun yg hv ho=>?_;refine gct ho (fun hg ho=>?_) fun hg ho=>?_
    ·cases ho; exact zpf (fun fr h s=>And.intro rfl (Exists.intro [] (s.pick [0,1,2] trivial rfl (by decide))))
    ·refine gcl ho fun yh hw ho=>?_;refine gcl ho fun yi hy ho=>?_;refine gct ho (fun hh ho=>?_) fun hh ho=>?_
     ·refine run 8 ?_;cases ho; exact zix (fun fr h s=>And.intro rfl (Exists.intro [] (s.pick [0,1,2] trivial rfl (by decide))))
     ·cases ho; exact znn (fun fr h s=>And.intro rfl (Exists.intro [] (s.pick [0,1,2] trivial rfl (by decide))))
   ·clear ha;rcases ta with ba | bb
    ·have ho:=zwm ho;intro gb;refine gwk [7,8,9,10,11,12,14,16,17,18,48,50,51,52,53,54,55,56,57,58,59,60,61,62,63,64,65,66,67] [0,1,2] ?_;refine gct ho (fun hi ho=>?_) fun hi ho=>?_
     ·exact we ho
     ·refine glb (ba.2.1,ba.2.2.1,ba.2.2.2.1,ba.2.2.2.2,()) 1 ?_;exact we ho
    ·have ho:=zwn ho;intro gc;refine gwk [7,8,9,10,11,12,14,16,17,18,48,50,51,52,53,54,55,56,57,58,59,60,61,62,63,64,65,66,67] [0,1,2] ?_;refine gct ho (fun hj ho=>?_) fun hj ho=>?_
     ·exact we ho
     ·refine glb (bb.2.1,bb.2.2.1,bb.2.2.2.1,bb.2.2.2.2,()) 1 ?_;exact we ho⟩
instance i41 {p_0 w_1}:FI ktab 41 (zc3 p_0 w_1) [.val zaf p_0,.val (zf zcu) w_1] (fun out=>[wB out]):=⟨fun out ho=>by
 delta zc3 at ho;refine fn fun _ _=>?_;obtain ⟨ta,ha,ho⟩:=bnd ho;refine gl2 ha ho [1,2] [] [] (fun s g=>([(5,vI s)],[])) (fun b=>(.exit 0,fun g=>([],[]))) (fun b=>(.ret,fun g=>([(4,vB b)],[]))) [] (fun sa gb _ ho=>?_) (fun ba ho ga=>?_) fun bb ho ga=>?_
 ·refine gct ho (fun hc ho=>?_) fun hc ho=>?_
  ·obtain ⟨xa,hf,ho⟩:=bnd ho;refine gcl ho fun ya hg ho=>?_;refine wbr ho (fun hd ho=>?_) fun hd ho=>?_
   ·refine gk ?_;exact we ho
   ·refine run 4 ?_;obtain ⟨xb,hh,ho⟩:=bnd ho;refine run 5 ?_;obtain ⟨xd,hi,ho⟩:=bnd ho;refine gcl ho fun yb hj ho=>?_;refine wbr ho (fun he ho=>?_) fun he ho=>?_
    ·refine gk ?_;exact we ho
    ·refine run 3 ?_;exact we ho
  ·exact lv [] [] ho
 ·exact we ho
 ·exact rv ho⟩
instance i83 {a_0 n_1}:FI ktab 83 (zhe a_0 n_1) [vI a_0,vI n_1] (fun out=>[wI out]):=fw
instance i84 {s_0 w_1 t_2 takes_3}:FI ktab 84 (zdT s_0 w_1 t_2 takes_3) [.val zac s_0,.val (zf zcu) w_1,.val zhE t_2,vI takes_3] (fun out=>[wB out]):=⟨fun out ho=>by
 delta zdT at ho;refine fn fun _ _=>?_;obtain ⟨x3,hx3,ho⟩:=bnd ho;refine gcl ho fun y4 hy4 ho=>?_;obtain ⟨ta,ha,ho⟩:=bnd ho;refine gl2 ha ho [1,3,6,9] [] [] (fun s g=>([(10,vI s)],[])) (fun b=>(.exit 0,fun g=>([],[]))) (fun b=>(.ret,fun g=>([(8,vB b)],[]))) [] (fun sa gc _ ho=>?_) (fun ba ho ga=>?_) fun bb ho ga=>?_
 ·refine gct ho (fun hc ho=>?_) fun hc ho=>?_
  ·obtain ⟨tb,hd,ho⟩:=bnd ho;refine gl2 hd ho [1,3,6,9,10] [] [] (fun s g=>([(11,vI s)],[])) (fun b=>(.exit 2,fun g=>([],[]))) (fun b=>(.ret,fun g=>([(8,vB b)],[]))) [] (fun sb gd _ ho=>?_) (fun bc ho gb=>?_) fun bd ho gb=>?_
   ·refine gct ho (fun he ho=>?_) fun he ho=>?_
    ·obtain ⟨xa,hh,xb,hi,ho⟩:=zfX ho;refine wbr ho (fun hf ho=>?_) fun hf ho=>?_
     ·refine run 21 ?_;obtain ⟨xd,hj,ho⟩:=bnd ho;refine wbr ho (fun hg ho=>?_) fun hg ho=>?_
      ·refine run 6 ?_;exact we ho
      ·refine gk ?_;exact we ho
     ·refine gk ?_;exact we ho
    ·exact lv [] [] ho
   ·exact we ho
   ·cases ho; exact id (lf [] [])
  ·exact lv [] [] ho
 ·exact we ho
 ·exact rv ho⟩
instance i42 {p_0 s_1 w_2 line_3 home_4 before_5}:FI ktab 42 (zeY p_0 s_1 w_2 line_3 home_4 before_5) [.val zaf p_0,.val zac s_1,.val (zf zcu) w_2,vI line_3,vB home_4,vI before_5] (fun out=>[.val zhE out.1,wB out.2]):=⟨fun out ho=>by
 delta zeY at ho;refine fn fun _ _=>?_;refine gal fun b1=>?_;obtain ⟨x2,hx2,ho⟩:=bnd ho;refine gcl ho fun y3 hy3 ho=>?_;obtain ⟨x6,hx6,ho⟩:=bnd ho;refine gcl ho fun y7 hy7 ho=>?_;refine run 8 ?_;obtain ⟨xa,he,ho⟩:=bnd ho;refine gcl ho fun yb hf ho=>?_;refine gcl ho fun yc hg ho=>?_;obtain ⟨ta,ha,ho⟩:=bnd ho;refine gl2 ha ho [2,3,4,7,12,14,15,16,17] [] [0] (fun s g=>([(18,vI s.1)],[(.ptr b1 0,.box [vI s.2.1,vB s.2.2.1,vI s.2.2.2.1,vI s.2.2.2.2])])) (fun b=>(.exit 0,fun g=>([],[(.ptr b1 0,.box [vI b.1,vB b.2.1,vI b.2.2.1,vI b.2.2.2])]))) (fun b=>(.ret,fun g=>([(13,vB b.1)],[(.ptr b1 0,.box [vI b.2.1,vB b.2.2.1,vI b.2.2.2.1,vI b.2.2.2.2])]))) [] (fun sa gb _ ho=>?_) (fun ba ho ga=>?_) fun bb ho ga=>?_
 ·refine gct ho (fun hc ho=>?_) fun hc ho=>?_
  ·refine gcl ho fun ya hh ho=>?_;refine gal fun bc=>?_;refine gfz 1 zhE ((line_3,home_4,ya,(w64 (y3+(w64 (sa.1*x2)))),()):Trip) 0 [19] ?_;refine gcl ho fun yd hi ho=>?_;refine gct ho (fun hd ho=>?_) fun hd ho=>?_
   ·exact lv [] [0] ho
   ·exact lv [] [0] ho
  ·exact lv [] [0] ho
 ·exact we ho
 ·exact rv ho⟩
instance i7 {p_0 s_1 w_2 more_3 line_4 home_5 before_6}:FI ktab 7 (zcm p_0 s_1 w_2 more_3 line_4 home_5 before_6) [.val zaf p_0,.val zac s_1,.val (zf zcu) w_2,.val zcu more_3,vI line_4,vB home_5,vI before_6] (fun out=>[wB out]):=⟨fun out ho=>by
 delta zcm at ho;refine fn fun _ _=>?_;obtain ⟨c3,hc3,ho⟩:=bnd ho;refine run 9 ?_;refine gcx c3 [2,4,5,6,7,8,10] [] (fun t=>(.normal,fun _=>([(30,vB t)],[]))) ?_ fun _=>?_
 ·exact we hc3
 ·refine gct ho (fun hq6 ho=>?_) fun hq6 ho=>?_
  ·exact we ho
  ·refine gcl ho fun y8 hy8 ho=>?_;refine gal fun b9=>?_;refine gfz 1 zhE y8.1 0 [15] ?_;obtain ⟨ca,ha,ho⟩:=bnd ho;refine run 4 ?_;refine gcx ca [2,4,5,6,7,8,10,15,16] [] (fun t=>(.normal,fun _=>([(70,vB t)],[]))) ?_ fun _=>?_
   ·exact we ha
   ·refine gct ho (fun hc ho=>?_) fun hc ho=>?_
    ·obtain ⟨cc,hd,ho⟩:=bnd ho;refine run 1 ?_;refine gcx cc [] [] (fun t=>(.normal,fun _=>([(14,vB t)],[]))) ?_ fun _=>?_
     ·exact we hd
     ·exact rv ho
    ·refine gcl ho fun ya hs ho=>?_;refine gal fun ba=>?_;refine gfz 1 zhE ya.1 0 [17] ?_;obtain ⟨cd,he,ho⟩:=bnd ho;refine run 4 ?_;refine gcx cd [2,4,5,6,7,8,10,15,18] [] (fun t=>(.normal,fun _=>([(113,vB t)],[]))) ?_ fun _=>?_
     ·exact we he
     ·refine gct ho (fun hf ho=>?_) fun hf ho=>?_
      ·exact we ho
      ·refine run 2 ?_;refine zaN [2000010] (by kernel_rfl) ?_;refine run 1 ?_;refine zgz (zfw zcu) ?_;obtain ⟨xa,hg,ho⟩:=bnd ho;refine zl2 0 is' iy' hg (.n rfl) rfl rfl rfl rfl rfl .nilr rfl (.t rfl) rfl (hra:=roffs rfl (.q rfl .n)) ?_;intro va;obtain ⟨xb,hh,ho⟩:=bnd ho;refine run 2 ?_;refine zl2 0 is' iy' hh (.n rfl) rfl rfl rfl rfl rfl (.t rfl) rfl (.t rfl) rfl (hra:=roffs rfl (.q rfl .n)) ?_;intro vb;refine gcl ho fun yc ht ho=>?_;refine gct ho (fun hi ho=>?_) fun hi ho=>?_
       ·exact we ho
       ·refine gcl ho fun yb hu ho=>?_;refine gal fun bb=>?_;refine gfz 1 zhE yb.1 0 [20] ?_;obtain ⟨ce,hj,ho⟩:=bnd ho;refine run 3 ?_;refine gcx ce [] [0] (fun t=>(.normal,fun _=>([(14,vB t)],[]))) ?_ fun _=>?_
        ·have ho:=hj;refine wbr ho (fun hk ho=>?_) fun hk ho=>?_
         ·refine wbr ho (fun hl ho=>?_) fun hl ho=>?_
          ·refine wbr ho (fun hm ho=>?_) fun hm ho=>?_
           ·refine gcl ho fun yd hv ho=>?_;exact lv [] [0] ho
           ·refine wbr ho (fun hn ho=>?_) fun hn ho=>?_
            ·refine gcl ho fun ye hw ho=>?_;exact lv [] [0] ho
            ·exact lv [] [0] ho
          ·refine wbr ho (fun hp ho=>?_) fun hp ho=>?_
           ·refine gcl ho fun yf hy ho=>?_;exact lv [] [0] ho
           ·exact lv [] [0] ho
         ·refine wbr ho (fun hr ho=>?_) fun hr ho=>?_
          ·refine gcl ho fun yg hz ho=>?_;exact lv [] [0] ho
          ·exact lv [] [0] ho
        ·exact rv ho⟩
end Go.Ai.TabYtppebpagcocogaaGreat
