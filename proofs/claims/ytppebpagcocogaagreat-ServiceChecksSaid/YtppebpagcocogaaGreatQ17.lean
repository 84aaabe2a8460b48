/- Written by program: walks through functions. -/
import Derived.Test.YtppebpagcocogaaGreatQ16
set_option linter.unusedSimpArgs false
set_option linter.unusedVariables false
set_option linter.unusedSectionVars false
namespace Go.Ai.TabYtppebpagcocogaaGreat
open Go Go.Ai Go.Ai.Sx Go.Proofs
attribute [local irreducible] zo
set_option maxRecDepth 100000
set_option maxHeartbeats 4000000
theorem zei   {data_0:(List Int)} {a_1:Int} {b_2:Int} {limit_3:Int} {out:((List Int))} (ho:za4 data_0 a_1 b_2 limit_3=some out) (v_0:zi):znt ktab 215 [.raw v_0,.val (zj .i64) a_1,.val (zj .i64) b_2,.val (zj .i64) limit_3] [(v_0,.row (zj .i64) (data_0))] [] (fun γ=>[(v_0,.row (zj .i64) (out))]):=by
 refine zjf (F:=Tryz.f215) (by rfl) (by rfl) (by rfl) (fun C=>?_);delta za4 at ho;refine run 9 ?_;obtain ⟨t18,ht18,ho⟩:=bnd ho;refine wlp ht18 [0] (fun s g=>([(1,vI (s.1)),(2,vI (s.2.1)),(3,vI (s.2.2.1)),(8,vB (s.2.2.2.1)),(9,vB (s.2.2.2.2.1))],[(v_0,.row (zj .i64) (s.2.2.2.2.2))])) (fun b=>(.ret,fun g=>([],[(v_0,.row (zj .i64) (b))]))) [] SEL (pk [0]) NE (fun s11 g12 _ ho=>?_) fun g19=>?_
 ·refine run 14 ?_;refine wct ho (fun hq13 ho=>?_) fun hq13 ho=>?_
  ·refine run 5 ?_;obtain ⟨y14,hy14,ho⟩:=bnd ho;refine zli [0] [] (fun _ h=>by cases h) (zdc hy14 v_0) rfl rfl (by decide) rfl (.n rfl) rfl rfl rfl .f (.c (.t rfl) (.c (.t rfl) (.c (.t rfl) .n))) ?_;intro g15;show zo ..;refine run 1 ?_;cases ho; exact zaj (lf [] [0])
  ·refine run 7 ?_;refine wct ho (fun hq16 ho=>?_) fun hq16 ho=>?_
   ·refine run 5 ?_;cases ho
   ·refine run 7 ?_;refine wct ho (fun hq17 ho=>?_) fun hq17 ho=>?_
    ·refine run 5 ?_;cases ho
    ·refine run 6 ?_;cases ho
 ·cases ho; exact id (zgG [0] [] (.inr rfl) .n rfl (by decide))
theorem zfp   {x_0:(List Int)} {out:((List Int))} (ho:zbu x_0=some out) (v_0:zi):znt ktab 205 [.raw v_0] [(v_0,.row (zj .i64) (x_0))] [] (fun γ=>[(v_0,.row (zj .i64) (out))]):=by
 refine zjf (F:=Tryz.f205) (by rfl) (by rfl) (by rfl) (fun C=>?_);delta zbu at ho;refine run 11 ?_;refine xcl ho ?_;intro y1 hy1 ho;show zo ..;obtain ⟨y2,hy2,ho⟩:=bnd ho;refine zli [0] [] (fun _ h=>by cases h) (zei hy2 v_0) rfl rfl (by decide) rfl (.n rfl) rfl rfl rfl .f (.c (.t rfl) (.c (.i (by decide) (by decide)) (.c (.t rfl) (.c (.t rfl) .n)))) ?_;intro g3;show zo ..;cases ho; exact zah (zgG [0] [] (.inl rfl) .n rfl (by decide))
instance i206 {n_0}:FI ktab 206 (zdr n_0) [vI n_0] (fun out=>[.val zy (out)]):=⟨fun out ho=>by
 delta zdr at ho;refine fn fun _ _=>?_;refine run 2 ?_;refine xal (zv:=.agg [.int .i64 0,.bool false]) (es:=[vI (0),vB (false)]) (by kernel_rfl) fun b1=>?_;refine run 4 ?_;obtain ⟨x2,hx2,ho⟩:=bnd ho;refine run 2 ?_;obtain ⟨x3,hx3,ho⟩:=bnd ho;refine run 5 ?_;cases ho; exact zaj (zF (.inr rfl) (.b 0 zB3 (za (zb rfl) (za (zb rfl) zd rfl) rfl) rfl rfl .n) (by decide))⟩
theorem zeN {σ τ:Type} {step:σ->(zR)->Option (σ⊕τ)} {yv:zi} {K:σ⊕τ->List zi->Sx.Obj} (hcb:ztg ktab yv (fun x=>[.val zy (x)]) step K) {s_:σ} {p_1:zaO} {p_2:zR} {out:((σ⊕τ))} (ho:zbi step s_ p_1 p_2=some out) (γ0:List zi):znt ktab 201 [.raw yv,.val (zad (zad zu)) p_1,.val (zad zy) p_2] [(yv,K (.inl s_) γ0)] [] (fun γ=>[(yv,K (out) (untup (gh γ 0)))]):=by
 refine zjf (F:=Tryz.f201) (by rfl) (by rfl) (by rfl) (fun C=>?_);delta zbi at ho;refine run 12 ?_;refine xcl ho ?_;intro y5 hy5 ho;show zo ..;refine xcl ho ?_;intro y6 hy6 ho;show zo ..;obtain ⟨x7,hx7,ho⟩:=bnd ho;refine run 2 ?_;refine xal (zv:=.agg [.int .i64 0,.int .i64 0,.int .i64 0,.nilslice,.int .i64 0]) (es:=[vI (0),vI (0),vI (0),.val (zg zA) ([]),vI (0)]) (by kernel_rfl) fun b8=>?_;refine run 1 ?_;refine zaY (zx (R:=zax) (a:=x7) 0 [4] (za (za (zb rfl) (za (zb rfl) zd rfl) rfl) (za (zb rfl) (za (zb rfl) (za (zb rfl) zd rfl) rfl) rfl) rfl) rfl rfl ⟨rfl,trivial⟩) ?_;refine run 3 ?_;refine zaY (zw (zj .i64)) ?_;refine zC (.n rfl) rfl rfl .nilr ?_;refine run 10 ?_;obtain ⟨t33,ht33,ho⟩:=bnd ho;refine wlp ht33 [0,1,2,4,25,26] (fun s g=>([(5,.raw ((gh g 0))),(27,vI (s.2))],[(yv,K ((.inl s_)) γ0),((gh g 0),.row (zj .i64) (s.1))])) (fun b=>(.exit 0,fun g=>([(5,.raw ((gh g 0)))],[(yv,K ((.inl s_)) γ0),((gh g 0),.row (zj .i64) (b))]))) [.nilslice] SEL (pk [1,0]) NE (fun s20 g21 _ ho=>?_) fun g34=>?_
 ·refine run 5 ?_;refine wct ho (fun hq22 ho=>?_) fun hq22 ho=>?_
  ·refine run 6 ?_;obtain ⟨x23,hx23,ho⟩:=bnd ho;refine run 2 ?_;refine xal (zv:=.agg [.int .i64 0,.bool false]) (es:=[vI (0),vB (false)]) (by kernel_rfl) fun b24=>?_;refine run 2 ?_;refine zaY (zx (R:=zA) (a:=x23) 0 [7] (za (zb rfl) (za (zb rfl) zd rfl) rfl) rfl rfl ⟨rfl,trivial⟩) ?_;refine run 10 ?_;refine xcl ho ?_;intro y27 hy27 ho;show zo ..;refine zvC zwv Z3 (.n rfl) rfl rfl (.t rfl) (.t rfl) ?_;refine run 1 ?_;refine xcl ho ?_;intro y28 hy28 ho;show zo ..;refine run 1 ?_;refine wct ho (fun hq29 ho=>?_) fun hq29 ho=>?_
   ·refine run 7 ?_;refine xcl ho ?_;intro y30 hy30 ho;show zo ..;refine run 1 ?_;obtain ⟨x31,hx31,ho⟩:=bnd ho;refine xap fun v32=>?_;refine run 5 ?_;cases ho; exact zah (lf [v32] [1,0])
   ·refine run 4 ?_;cases ho; exact zah (lf [(gh g21 0)] [0,1])
  ·cases ho; exact zas (lf [(gh g21 0)] [0,1])
 ·show zap ..;refine run 3 ?_;obtain ⟨y35,hy35,ho⟩:=bnd ho;refine zli [1] [0] (fun _ h=>by cases h) (zfp hy35 ((gh g34 0))) rfl rfl (by decide) rfl (.n rfl) rfl rfl rfl .f (.c (.t rfl) .n) ?_;intro g36;show zo ..;refine run 8 ?_;obtain ⟨t59,ht59,ho⟩:=bnd ho;refine wlp ht59 [0,55,56] (fun s g=>([(57,vI (s.1))],[((gh g34 0),.row (zj .i64) (y35)),(yv,K s.2 ((untup (gh g 0))))])) (zfF (fun b=>(.exit 2,fun g=>([],[(yv,K b ((untup (gh g 0))))]))) (fun b=>(.ret,fun g=>([],[(yv,K b ((untup (gh g 0))))])))) [.tuple γ0] SEL (pk [0,1]) NE (fun s50 g51 _ ho=>?_) fun g60=>?_
  ·refine run 5 ?_;refine wct ho (fun hq52 ho=>?_) fun hq52 ho=>?_
   ·refine run 5 ?_;obtain ⟨x53,hx53,ho⟩:=bnd ho;refine run 8 ?_;refine xcl ho ?_;intro y54 hy54 ho;show zo ..;obtain ⟨s55,hs55,ho⟩:=bnd ho;refine zaY (zuD (K:=K) 1 (zqJ hs55) rfl rfl) ?_;obtain ⟨y56,hy56,ho⟩:=bnd ho;refine zqH [1] [0] (fun _ h=>by cases h) hcb hy56 rfl rfl rfl (by decide) (.n rfl) rfl rfl rfl (.t rfl) (.c (.t rfl) .n) ?_;intro v57;refine run 2 ?_;refine wct ho (fun hq58 ho=>?_) fun hq58 ho=>?_
    ·cases ho; exact zaj (lf [.tuple v57] [0])
    ·refine run 4 ?_;cases ho; exact zah (lf [.tuple v57] [1,0])
   ·cases ho; exact zas (lf [.tuple ((untup (gh g51 0)))] [1])
  ·rcases t59 with b61 | b62
   ·have ho:=zck ho;cases ho; exact id (zgG [0] [.tuple ((untup (gh g60 0)))] (.inl rfl) .n rfl (by decide))
   ·have ho:=zcl ho;cases ho; exact id (zgG [0] [.tuple ((untup (gh g60 0)))] (.inr rfl) .n rfl (by decide))
theorem ze4 {σ τ:Type} {step:σ->(zR)->Option (σ⊕τ)} {yv:zi} {K:σ⊕τ->List zi->Sx.Obj} (hcb:ztg ktab yv (fun x=>[.val zy (x)]) step K) {s_:σ} {p_1:zaO} {p_2:zR} {out:((σ⊕τ))} (ho:zbi step s_ p_1 p_2=some out) (γ0:List zi):znt ktab 201 [.raw yv,.val (zad (zad zu)) p_1,.val (zad zy) p_2] [(yv,K (.inl s_) γ0)] [] (fun γ=>[(yv,K (out) γ)]) :=
 zqK (zeN hcb ho γ0)
instance i189 {n_0 m_1}:FI ktab 189 (zcc n_0 m_1) [.val (zad zu) n_0,.val zy m_1] (fun out=>[.val (zpe 201 [] [.val (zad (zad zu)) (out.1),.val (zad zy) (out.2)]) ()]):=⟨fun out ho=>by
 delta zcc at ho;refine fn fun _ _=>?_;refine run 4 ?_;refine zaq rfl (.n rfl) rfl (e:=.raw .nilfunc) (fun z fr h s=>⟨_,rfl,by simp only [TE.ok]; rfl⟩) ?_;refine run 3 ?_;refine zqF (.n rfl) rfl rfl .n (.c (.t rfl) (.c (.t rfl) .n)) ?_;exact w ho⟩
instance i177 {n_0 m_1 k_2}:FI ktab 177 (zaP n_0 m_1 k_2) [.val (zad zu) n_0,.val zy m_1,.val zy k_2] (fun out=>[.val zB (out)]):=⟨fun out ho=>by
 delta zaP at ho;refine fn fun _ _=>?_;refine run 4 ?_;refine xal (zv:=.bool false) (es:=[vB (false)]) (by kernel_rfl) fun b1=>?_;refine run 6 ?_;refine xcl ho ?_;intro y2 hy2 ho;show zo ..;refine run 2 ?_;obtain ⟨t12,ht12,ho⟩:=bnd ho;refine zvA (σ:=(Bool)) (τ:=(Bool)) (X:=(zR)) (ins:=(fun x=>[.val zy (x)])) (zAU (fun s g=>[(.ptr b1 0,.box [vB (s)])]) (fun t g=>[(.ptr b1 0,.box [vB (t)])])) (fun _=>none) (s0:=false) (r:=t12) [] [0] [] rfl (.t rfl) rfl rfl (by decide) (fun _=>rfl) (fun yv K hcb γ=>ze4 hcb ht12 γ) ?_ ?_
 ·clear ho ht12;intro s8 g9 x3 r13 ho C;refine run 1 ?_;refine xal (zv:=.agg [.int .i64 0,.bool false]) (es:=[vI (0),vB (false)]) (by kernel_rfl) fun b10=>?_;refine run 1 ?_;refine zaY (zx (R:=zy) (a:=x3) 0 [7] (za (zb rfl) (za (zb rfl) zd rfl) rfl) rfl rfl ⟨rfl,trivial⟩) ?_;refine zah (fun fr h s=>And.intro rfl (Exists.intro _ (Exists.intro _ (And.intro s (fun C=>?_)))));refine run 7 ?_;refine wct ho (fun hq11 ho=>?_) fun hq11 ho=>?_
  ·refine run 4 ?_;cases ho; exact zaj (fun fr h s=>And.intro rfl (Exists.intro [] (s.pick [0] trivial rfl (by decide))))
  ·cases ho; exact zuB (fun fr h s=>And.intro rfl (Exists.intro [] (s.pick [0] trivial rfl (by decide))))
 ·clear ht12;rcases t12 with b14 | b15
  ·have ho:=zck ho;intro g16;refine ztj (Γ':=[(0,.val (zad zu) (n_0)),(1,.val zy (m_1)),(2,.val zy (k_2)),(4,.val (zad zy) (m_1)),(5,.val (zad zy) (k_2)),(6,.raw (.ptr b1 0)),(8,.val (zad zu) (n_0)),(9,.val zy (m_1)),(10,.val (zpe 201 [] [.val (zad (zad zu)) (y2.1),.val (zad zy) (y2.2)]) ())]) (L':=[(.ptr b1 0,.box [vB (b14)])]) [0] ⟨rfl,rfl,rfl,rfl,rfl,rfl,rfl,rfl,rfl,trivial⟩ rfl (by decide) ?_;show ∀ fr h,St _ [(0,.val (zad zu) (n_0)),(1,.val zy (m_1)),(2,.val zy (k_2)),(4,.val (zad zy) (m_1)),(5,.val (zad zy) (k_2)),(6,.raw (.ptr b1 0)),(8,.val (zad zu) (n_0)),(9,.val zy (m_1)),(10,.val (zpe 201 [] [.val (zad (zad zu)) (y2.1),.val (zad zy) (y2.2)]) ())] [(.ptr b1 0,.box [vB (b14)])] fr h->_;show zap ..;refine run 4 ?_;cases ho; exact zaj (zF (.inr rfl) (.b 0 U4 (zb rfl) rfl rfl .n) (by decide))
  ·have ho:=zcl ho;intro g17;refine ztj (Γ':=[(0,.val (zad zu) (n_0)),(1,.val zy (m_1)),(2,.val zy (k_2)),(4,.val (zad zy) (m_1)),(5,.val (zad zy) (k_2)),(6,.raw (.ptr b1 0)),(8,.val (zad zu) (n_0)),(9,.val zy (m_1)),(10,.val (zpe 201 [] [.val (zad (zad zu)) (y2.1),.val (zad zy) (y2.2)]) ())]) (L':=[(.ptr b1 0,.box [vB (b15)])]) [0] ⟨rfl,rfl,rfl,rfl,rfl,rfl,rfl,rfl,rfl,trivial⟩ rfl (by decide) ?_;show ∀ fr h,St _ [(0,.val (zad zu) (n_0)),(1,.val zy (m_1)),(2,.val zy (k_2)),(4,.val (zad zy) (m_1)),(5,.val (zad zy) (k_2)),(6,.raw (.ptr b1 0)),(8,.val (zad zu) (n_0)),(9,.val zy (m_1)),(10,.val (zpe 201 [] [.val (zad (zad zu)) (y2.1),.val (zad zy) (y2.2)]) ())] [(.ptr b1 0,.box [vB (b15)])] fr h->_;cases ho; exact id (zF (.inr rfl) (.b 0 U4 (zb rfl) rfl rfl .n) (by decide))⟩
instance i154 {n_0 l_1}:FI ktab 154 (zbQ n_0 l_1) [.val (zad zu) n_0,.val (zg zy) l_1] (fun out=>[.val zB (out)]):=⟨fun out ho=>by
 delta zbQ at ho;refine fn fun _ _=>?_;refine run 12 ?_;obtain ⟨t45,ht45,ho⟩:=bnd ho;refine wlp ht45 [0,1,7,8] (fun s g=>([(9,vI (s))],[])) (zfF (fun b=>(.exit 0,fun g=>([],[]))) (fun b=>(.ret,fun g=>([(4,vB (b))],[])))) [] SEL (pk []) NE (fun s22 g23 _ ho=>?_) fun g46=>?_
 ·refine run 5 ?_;refine wct ho (fun hq24 ho=>?_) fun hq24 ho=>?_
  ·refine run 6 ?_;obtain ⟨x25,hx25,ho⟩:=bnd ho;refine run 2 ?_;refine xal (zv:=.agg [.int .i64 0,.bool false]) (es:=[vI (0),vB (false)]) (by kernel_rfl) fun b26=>?_;refine run 2 ?_;refine zaY (zx (R:=zy) (a:=x25) 0 [6] (za (zb rfl) (za (zb rfl) zd rfl) rfl) rfl rfl ⟨rfl,trivial⟩) ?_;refine run 5 ?_;refine xcl ho ?_;intro y37 hy37 ho;show zo ..;refine run 2 ?_;refine wbr ho (fun hb38 ho=>?_) fun hb38 ho=>?_
   ·refine run 15 ?_;refine zaI (.t rfl) (fun _=>?_) (fun hq=>by cases hq);exact w ho
   ·refine run 3 ?_;refine wbr ho (fun hb40 ho=>?_) fun hb40 ho=>?_
    ·exact w ho
    ·refine run 12 ?_;refine zaI (.t rfl) (fun hq=>by cases hq) (fun _=>?_);exact w ho
  ·cases ho; exact zas (lf [] [])
 ·rcases t45 with b47 | b48
  ·have ho:=zck ho;show zap ..;exact w ho
  ·have ho:=zcl ho;cases ho; exact id (zF (.inr rfl) (.v rfl .n) (by decide))⟩
instance i155 {n_0 l_1}:FI ktab 155 (zaV n_0 l_1) [.val (zad zu) n_0,.val (zg zy) l_1] (fun out=>[.val (zj .i64) (out)]):=⟨fun out ho=>by
 delta zaV at ho;refine fn fun _ _=>?_;refine run 16 ?_;obtain ⟨t13,ht13,ho⟩:=bnd ho;refine wlp ht13 [0,8,9] (fun s g=>([(5,vI (s.1)),(10,vI (s.2))],[])) (fun b=>(.exit 0,fun g=>([(5,vI (b))],[]))) [] SEL (pk []) NE (fun s6 g7 _ ho=>?_) fun g14=>?_
 ·refine run 5 ?_;refine wct ho (fun hq8 ho=>?_) fun hq8 ho=>?_
  ·refine run 5 ?_;obtain ⟨x9,hx9,ho⟩:=bnd ho;refine run 2 ?_;refine xal (zv:=.agg [.int .i64 0,.bool false]) (es:=[vI (0),vB (false)]) (by kernel_rfl) fun b10=>?_;refine run 1 ?_;refine zaY (zx (R:=zy) (a:=x9) 0 [7] (za (zb rfl) (za (zb rfl) zd rfl) rfl) rfl rfl ⟨rfl,trivial⟩) ?_;exact w ho
  ·cases ho; exact zas (lf [] [])
 ·show zap ..;exact w ho⟩
instance i131 {p_0 way_1}:FI ktab 131 (zbK p_0 way_1) [.val zaJ p_0,.val (zg zy) way_1] (fun out=>[.val (zj .i64) (out.1),.val (zj .i64) (out.2)]):=⟨fun out ho=>by
 delta zbK at ho;refine fn fun _ _=>?_;refine run 9 ?_;refine xcl ho ?_;intro y1 hy1 ho;show zo ..;refine run 8 ?_;obtain ⟨c5,hc5,ho⟩:=bnd ho;refine wcx c5 [1,6] (fun t=>(.normal,fun _=>([(20,vB (t))],[]))) SEL ?_ fun _=>?_
 ·have ho:=hc5;refine run 4 ?_;refine wbr ho (fun hb6 ho=>?_) fun hb6 ho=>?_
  ·exact w ho
  ·refine run 2 ?_;obtain ⟨p7,hp7,ho⟩:=bnd ho;refine zaY (zcu (n:=16) hp7 rfl) ?_;exact w ho
 ·show zap ..;refine wct ho (fun hq9 ho=>?_) fun hq9 ho=>?_
  ·exact w ho
  ·refine run 5 ?_;obtain ⟨p10,hp10,ho⟩:=bnd ho;refine zaY (zcu (n:=21) hp10 rfl) ?_;exact w ho⟩
instance i142 {n_0 low_1 high_2}:FI ktab 142 (zW n_0 low_1 high_2) [vI n_0,vI low_1,vI high_2] (fun out=>[.val zB (out)]):=⟨fun out ho=>by
 delta zW at ho;refine fn fun _ _=>?_;refine run 5 ?_;obtain ⟨c2,hc2,ho⟩:=bnd ho;refine wcx c2 [] (fun t=>(.normal,fun _=>([(6,vB (t))],[]))) SEL ?_ fun _=>?_
 ·exact w hc2
 ·show zap ..;cases ho; exact zaj (zF (.inr rfl) (.v rfl .n) (by decide))⟩
instance i136 {s_0 f_1}:FI ktab 136 (zbe s_0 f_1) [.val (zg (zj .i64)) s_0,.val (rFn ktab (Int) (Bool) (fun x=>[.val (zj .i64) (x)]) (fun y=>[.val zB (y)])) f_1] (fun out=>[.val (zj .i64) (out)]):=⟨fun out ho=>by
 delta zbe at ho;refine fn fun _ _=>?_;refine run 12 ?_;obtain ⟨t11,ht11,ho⟩:=bnd ho;refine wlp ht11 [0,1,7] (fun s g=>([(8,vI (s))],[])) (zfF (fun b=>(.exit 0,fun g=>([],[]))) (fun b=>(.ret,fun g=>([(4,vI (b))],[])))) [] SEL (pk []) NE (fun s5 g6 _ ho=>?_) fun g12=>?_
 ·refine run 5 ?_;refine wct ho (fun hq7 ho=>?_) fun hq7 ho=>?_
  ·refine run 13 ?_;obtain ⟨x8,hx8,ho⟩:=bnd ho;refine run 2 ?_;obtain ⟨y9,hy9,ho⟩:=bnd ho;refine zgF (X:=(Int)) (Y:=(Bool)) (f:=f_1) (x:=x8) hy9 (.n rfl) rfl rfl rfl (.t rfl) (.c (.t rfl) .n) ?_;exact w ho
  ·cases ho; exact zas (lf [] [])
 ·rcases t11 with b13 | b14
  ·have ho:=zck ho;show zap ..;exact w ho
  ·have ho:=zcl ho;cases ho; exact id (zF (.inr rfl) (.v rfl .n) (by decide))⟩
instance i105 {s_0 f_1}:FI ktab 105 (zay s_0 f_1) [.val (zg (zj .i64)) s_0,.val (rFn ktab (Int) (Bool) (fun x=>[.val (zj .i64) (x)]) (fun y=>[.val zB (y)])) f_1] (fun out=>[.val zB (out)]):=⟨fun out ho=>by
 delta zay at ho;refine fn fun _ _=>?_;exact w ho⟩
instance i181 {g_0}:FI ktab 181 (zde g_0) [vI g_0] (fun out=>[.val zB (out)]):=⟨fun out ho=>by
 delta zde at ho;refine fn fun _ _=>?_;exact w ho⟩
instance i170 {t_0}:FI ktab 170 (zc6 t_0) [.val zaB t_0] (fun out=>[.val (zj .i64) (out)]):=⟨fun out ho=>by
 delta zc6 at ho;refine fn fun _ _=>?_;refine run 7 ?_;obtain ⟨c18,hc18,ho⟩:=bnd ho;refine wcx c18 [1] (fun t=>(.normal,fun _=>([(54,vB (t))],[]))) SEL ?_ fun _=>?_
 ·exact w hc18
 ·show zap ..;refine wct ho (fun hq36 ho=>?_) fun hq36 ho=>?_
  ·exact w ho
  ·refine run 3 ?_;obtain ⟨c40,hc40,ho⟩:=bnd ho;refine wcx c40 [] (fun t=>(.normal,fun _=>([(64,vB (t))],[]))) SEL ?_ fun _=>?_
   ·have ho:=hc40;refine run 4 ?_;refine xcl ho ?_;intro y41 hy41 ho;show zo ..;refine run 2 ?_;refine wbr ho (fun hb42 ho=>?_) fun hb42 ho=>?_
    ·exact w ho
    ·refine run 2 ?_;obtain ⟨y43,hy43,ho⟩:=bnd ho;refine zhF (i105.ok _ hy43) (.v zjc .n) rfl (.g rfl rfl (gf0 hb42)) rfl rfl rfl .f (.c (.o (.t rfl)) (.c (.o (.fv (zha (fun x y hf=>i181.ok _ hf) rfl))) .n)) ?_;exact w ho
   ·show zap ..;exact w ho⟩
instance i141 {t_0 state_1}:FI ktab 141 (zcM t_0 state_1) [.val zaB t_0,vI state_1] (fun out=>[.val (ze0 zt) (out.1),.val zB (out.2)]):=⟨fun out ho=>by
 delta zcM at ho;refine fn fun _ _=>?_;refine run 3 ?_;refine zaq rfl (.n rfl) rfl (e:=.val (ze0 zt) none) (fun z fr h s=>⟨_,rfl,zcG⟩) ?_;refine run 4 ?_;obtain ⟨c4,hc4,ho⟩:=bnd ho;refine wcx c4 [1,2] (fun t=>(.normal,fun _=>([(17,vB (t))],[]))) SEL ?_ fun _=>?_
 ·exact w hc4
 ·show zap ..;refine wct ho (fun hq8 ho=>?_) fun hq8 ho=>?_
  ·refine run 2 ?_;refine zaq rfl (.n rfl) rfl (e:=.val (ze0 zt) none) (fun z fr h s=>⟨_,rfl,zcG⟩) ?_;exact w ho
  ·refine run 10 ?_;cases ho;refine zoa (zlk (n:=4) rfl) ?_;exact zaj (zF (.inr rfl) (.v rfl (.v rfl .n)) (by decide))⟩
instance i143 {p_0 rail_1}:FI ktab 143 (zbH p_0 rail_1) [.val zaJ p_0,vI rail_1] (fun out=>[.val (zj .i64) (out.1),.val (zj .i64) (out.2)]):=⟨fun out ho=>by
 delta zbH at ho;refine fn fun _ _=>?_;refine run 9 ?_;refine xcl ho ?_;intro y1 hy1 ho;show zo ..;refine run 8 ?_;obtain ⟨c5,hc5,ho⟩:=bnd ho;refine wcx c5 [1,6] (fun t=>(.normal,fun _=>([(21,vB (t))],[]))) SEL ?_ fun _=>?_
 ·have ho:=hc5;refine run 4 ?_;refine wbr ho (fun hb6 ho=>?_) fun hb6 ho=>?_
  ·exact w ho
  ·refine run 3 ?_;obtain ⟨p7,hp7,ho⟩:=bnd ho;refine zaY (zcu (n:=16) hp7 rfl) ?_;exact w ho
 ·show zap ..;refine wct ho (fun hq9 ho=>?_) fun hq9 ho=>?_
  ·exact w ho
  ·refine run 4 ?_;obtain ⟨p10,hp10,ho⟩:=bnd ho;refine zaY (zcu (n:=22) hp10 rfl) ?_;exact w ho⟩
instance i121 {p_0 way_1 t_2 state_3 stops_4}:FI ktab 121 (zc7 p_0 way_1 t_2 state_3 stops_4) [.val zaJ p_0,.val (zg zy) way_1,.val zaB t_2,vI state_3,.val (zg (zj .i64)) stops_4] (fun out=>[.val (ze0 zr) (out.1),.val zB (out.2)]):=⟨fun out ho=>by
 delta zc7 at ho;refine fn fun _ _=>?_;refine run 4 ?_;refine zaq rfl (.n rfl) rfl (e:=.val (ze0 zr) none) (fun z fr h s=>⟨_,rfl,zcG⟩) ?_;refine run 6 ?_;refine xcl ho ?_;intro y1 hy1 ho;show zo ..;refine run 10 ?_;refine xcl ho ?_;intro y2 hy2 ho;show zo ..;refine run 8 ?_;obtain ⟨c17,hc17,ho⟩:=bnd ho;refine wcx c17 [1,4,5,12] (fun t=>(.normal,fun _=>([(66,vB (t))],[]))) SEL ?_ fun _=>?_
 ·exact w hc17
 ·show zap ..;refine wct ho (fun hq25 ho=>?_) fun hq25 ho=>?_
  ·refine run 2 ?_;refine zaq rfl (.n rfl) rfl (e:=.val (ze0 zr) none) (fun z fr h s=>⟨_,rfl,zcG⟩) ?_;exact w ho
  ·refine run 7 ?_;obtain ⟨t40,ht40,ho⟩:=bnd ho;refine wlp ht40 [1,4,5,12] (fun s g=>([(16,vI (s))],[])) (zfF (fun b=>(.exit 0,fun g=>([],[]))) (fun b=>(.ret,fun g=>([(10,.val (ze0 zr) (b.1)),(11,vB (b.2))],[])))) [] SEL (pk []) NE (fun s32 g33 _ ho=>?_) fun g41=>?_
   ·refine run 8 ?_;refine wct ho (fun hq34 ho=>?_) fun hq34 ho=>?_
    ·refine run 7 ?_;obtain ⟨x37,hx37,ho⟩:=bnd ho;refine run 5 ?_;obtain ⟨x38,hx38,ho⟩:=bnd ho;refine run 4 ?_;refine wct ho (fun hq39 ho=>?_) fun hq39 ho=>?_
     ·refine run 2 ?_;refine zaq rfl (.n rfl) rfl (e:=.val (ze0 zr) none) (fun z fr h s=>⟨_,rfl,zcG⟩) ?_;exact w ho
     ·exact w ho
    ·cases ho; exact zas (lf [] [])
   ·rcases t40 with b42 | b43
    ·have ho:=zck ho;show zap ..;refine run 5 ?_;obtain ⟨p44,hp44,ho⟩:=bnd ho;refine zaY (zcu (n:=83) hp44 rfl) ?_;refine zlc (R:=zjp) zAj (.n rfl) rfl rfl rfl (.p (.t rfl) rfl (.p (.t rfl) rfl (.z (fun _=>zqX) (.z (fun _=>zqX) (.z (fun _=>zqX) (.p (.t rfl) rfl (.n rfl))))))) ?_;refine xbo fun b45=>?_;refine zaY (zgh (q:=2) 0 rfl rfl rfl) ?_;refine zaY (zw (zj .i64)) ?_;refine zaY (zgh (q:=3) 1 rfl rfl rfl) ?_;refine zaY (zw (zj .i64)) ?_;refine zaY (zgh (q:=4) 2 rfl rfl rfl) ?_;refine zaY (zw (zj .i64)) ?_;refine run 14 ?_;obtain ⟨t144,ht144,ho⟩:=bnd ho;refine wlp ht144 [5,17,88,89] (fun s g=>([(18,vI (s.1)),(90,vI (s.2.1))],[(.ptr b45 0,.box [.val (zad zt) (p44),.val (zg zy) (way_1),.raw ((gh g 2)),.raw ((gh g 1)),.raw ((gh g 0)),.val (zg (zj .i64)) (stops_4)]),((gh g 0),.row (zj .i64) (s.2.2.1)),((gh g 1),.row (zj .i64) (s.2.2.2.1)),((gh g 2),.row (zj .i64) (s.2.2.2.2))])) (zfF (fun b=>(.exit 2,fun g=>([],[(.ptr b45 0,.box [.val (zad zt) (p44),.val (zg zy) (way_1),.raw ((gh g 0)),.raw ((gh g 1)),.raw ((gh g 2)),.val (zg (zj .i64)) (stops_4)]),((gh g 0),.row (zj .i64) (b.1)),((gh g 1),.row (zj .i64) (b.2.1)),((gh g 2),.row (zj .i64) (b.2.2))]))) (fun b=>(.ret,fun g=>([(10,.val (ze0 zr) (b.1)),(11,vB (b.2.1))],[])))) [.nilslice,.nilslice,.nilslice] SEL (pk [3,0,1,2]) NE (fun s110 g111 _ ho=>?_) fun g145=>?_
     ·refine run 5 ?_;refine wct ho (fun hq112 ho=>?_) fun hq112 ho=>?_
      ·refine run 5 ?_;obtain ⟨x113,hx113,ho⟩:=bnd ho;refine run 2 ?_;refine xal (zv:=.agg [.int .i64 0,.bool false]) (es:=[vI (0),vB (false)]) (by kernel_rfl) fun b114=>?_;refine run 1 ?_;refine zaY (zx (R:=zy) (a:=x113) 0 [20] (za (zb rfl) (za (zb rfl) zd rfl) rfl) rfl rfl ⟨rfl,trivial⟩) ?_;refine run 6 ?_;refine xcl ho ?_;intro y115 hy115 ho;show zo ..;refine run 12 ?_;refine wct ho (fun hq116 ho=>?_) fun hq116 ho=>?_
       ·refine run 2 ?_;refine zaq rfl (.n rfl) rfl (e:=.val (ze0 zr) none) (fun z fr h s=>⟨_,rfl,zcG⟩) ?_;refine run 2 ?_;cases ho; exact zaj (lf [(gh g111 2),(gh g111 1),(gh g111 0)] [])
       ·refine run 14 ?_;obtain ⟨x117,hx117,ho⟩:=bnd ho;refine run 2 ?_;refine xal (zv:=.agg [.int .i64 0,.int .i64 0,.nilslice,.int .i64 0,.int .i64 0]) (es:=[vI (0),vI (0),.val (zg zbc) ([]),vI (0),vI (0)]) (by kernel_rfl) fun b118=>?_;refine run 1 ?_;refine zaY (zx (R:=zbJ) (a:=x117) 0 [23] (za (zb rfl) (za (zb rfl) (za (zb rfl) (za (zb rfl) (za (zb rfl) zd rfl) rfl) rfl) rfl) rfl) rfl rfl ⟨rfl,trivial⟩) ?_;refine run 13 ?_;refine wct ho (fun hq119 ho=>?_) fun hq119 ho=>?_
        ·refine run 5 ?_;refine za9 [6,13,21,1000017,2000023] (by kernel_rfl) ?_ (hdi:=rdists rfl (rowns rfl) (.c (.o (j:=0) rfl rfl) (.c (.q rfl) .n)) rfl);refine run 9 ?_;obtain ⟨x126,hx126,ho⟩:=bnd ho;refine znr 3 S27 Y3 hx126 (.n rfl) rfl rfl rfl rfl rfl (.t rfl) rfl (.t rfl) rfl (hra:=roffs rfl (.o 0 rfl rfl (by decide) (.q rfl .n))) ?_;intro v127;refine run 7 ?_;obtain ⟨x128,hx128,ho⟩:=bnd ho;refine znr 3 S27 Y3 hx128 (.n rfl) rfl rfl rfl rfl rfl (.t rfl) rfl (.t rfl) rfl (hra:=roffs rfl (.o 1 rfl rfl (by decide) (.q rfl .n))) ?_;intro v129;refine run 6 ?_;obtain ⟨x130,hx130,ho⟩:=bnd ho;refine znr 3 S27 Y3 hx130 (.n rfl) rfl rfl rfl rfl rfl (.t rfl) rfl (.t rfl) rfl (hra:=roffs rfl (.o 2 rfl rfl (by decide) (.q rfl .n))) ?_;intro v131;refine run 2 ?_;refine zeG 3 2 (U27).sz rfl rfl (by exact Nat.le_of_ble_eq_true rfl) (.n rfl) rfl rfl (.t rfl) (.t rfl) (by rfl) ?_;refine run 2 ?_;refine zeG 3 1 (U27).sz rfl rfl (by exact Nat.le_of_ble_eq_true rfl) (.n rfl) rfl rfl (.t rfl) (.t rfl) (by rfl) ?_;refine run 2 ?_;refine zeG 3 0 (U27).sz rfl rfl (by exact Nat.le_of_ble_eq_true rfl) (.n rfl) rfl rfl (.t rfl) (.t rfl) (by rfl) ?_;refine run 4 ?_;cases ho; exact zah (lf [v131,v129,v127] [3,0,1,2])
        ·refine run 1 ?_;refine za9 [6,13,21,1000017,2000023] (by kernel_rfl) ?_ (hdi:=rdists rfl (rowns rfl) (.c (.o (j:=0) rfl rfl) (.c (.q rfl) .n)) rfl);refine run 9 ?_;obtain ⟨x138,hx138,ho⟩:=bnd ho;refine znr 3 S27 Y3 hx138 (.n rfl) rfl rfl rfl rfl rfl (.t rfl) rfl (.t rfl) rfl (hra:=roffs rfl (.o 0 rfl rfl (by decide) (.q rfl .n))) ?_;intro v139;refine run 7 ?_;obtain ⟨x140,hx140,ho⟩:=bnd ho;refine znr 3 S27 Y3 hx140 (.n rfl) rfl rfl rfl rfl rfl (.t rfl) rfl (.t rfl) rfl (hra:=roffs rfl (.o 1 rfl rfl (by decide) (.q rfl .n))) ?_;intro v141;refine run 6 ?_;obtain ⟨x142,hx142,ho⟩:=bnd ho;refine znr 3 S27 Y3 hx142 (.n rfl) rfl rfl rfl rfl rfl (.t rfl) rfl (.t rfl) rfl (hra:=roffs rfl (.o 2 rfl rfl (by decide) (.q rfl .n))) ?_;intro v143;refine run 2 ?_;refine zeG 3 2 (U27).sz rfl rfl (by exact Nat.le_of_ble_eq_true rfl) (.n rfl) rfl rfl (.t rfl) (.t rfl) (by rfl) ?_;refine run 2 ?_;refine zeG 3 1 (U27).sz rfl rfl (by exact Nat.le_of_ble_eq_true rfl) (.n rfl) rfl rfl (.t rfl) (.t rfl) (by rfl) ?_;refine run 2 ?_;refine zeG 3 0 (U27).sz rfl rfl (by exact Nat.le_of_ble_eq_true rfl) (.n rfl) rfl rfl (.t rfl) (.t rfl) (by rfl) ?_;refine run 4 ?_;cases ho; exact zah (lf [v143,v141,v139] [3,0,1,2])
      ·cases ho; exact zas (lf [(gh g111 2),(gh g111 1),(gh g111 0)] [0,3,2,1])
     ·rcases t144 with b146 | b147
      ·have ho:=zck ho;show zap ..;refine run 6 ?_;cases ho;refine zoa (zgf 1 0 (q:=2) [] rfl rfl rfl rfl (by rfl) trivial) ?_;refine zoa (zgf 1 0 (q:=3) [] rfl rfl rfl rfl (by rfl) trivial) ?_;refine zoa (zgf 1 0 (q:=4) [] rfl rfl rfl rfl (by rfl) trivial) ?_;refine zoa (zx (R:=zr) (a:=(p44,way_1,b146.1,b146.2.1,b146.2.2,stops_4,())) 0 [17,150,10] (za (zb rfl) (za (zb rfl) (za (zb rfl) (za (zb rfl) (za (zb rfl) (za (zb rfl) zd rfl) rfl) rfl) rfl) rfl) rfl) rfl rfl ⟨rfl,rfl,rfl,trivial⟩) ?_;refine zoa (zlk (n:=10) rfl) ?_;exact zaj (zF (.inr rfl) (.v rfl (.v rfl .n)) (by decide))
      ·have ho:=zcl ho;cases ho; exact id (zF (.inr rfl) (.v rfl (.v rfl .n)) (by decide))
    ·have ho:=zcl ho;cases ho; exact id (zF (.inr rfl) (.v rfl (.v rfl .n)) (by decide))⟩
instance i144 {m_0 x_1}:FI ktab 144 (zS m_0 x_1) [.val (zad zt) m_0,.val zh x_1] (fun out=>[.val (zj .i64) (out)]):=⟨fun out ho=>by
 delta zS at ho;refine fn fun _ _=>?_;exact w ho⟩
instance i193 {x_0}:FI ktab 193 (zbZ x_0) [vI x_0] (fun out=>[.val zB (out)]):=⟨fun out ho=>by
 delta zbZ at ho;refine fn fun _ _=>?_;exact w ho⟩
instance i182 {x_0 target_1}:FI ktab 182 (zM x_0 target_1) [.val (zg (zj .i64)) x_0,vI target_1] (fun out=>[.val (zj .i64) (out.1),.val zB (out.2)]):=⟨fun out ho=>by
 delta zM at ho;refine fn fun _ _=>?_;refine run 19 ?_;obtain ⟨t13,ht13,ho⟩:=bnd ho;refine wlp ht13 [0,1,6] (fun s g=>([(7,vI (s.1)),(8,vI (s.2))],[])) (fun b=>(.exit 0,fun g=>([(7,vI (b))],[]))) [] SEL (pk []) NE (fun s6 g7 _ ho=>?_) fun g14=>?_
 ·exact w ho
 ·show zap ..;refine run 1 ?_;obtain ⟨c22,hc22,ho⟩:=bnd ho;refine wcx c22 [] (fun t=>(.normal,fun _=>([(4,vI (t.1)),(5,vB (t.2))],[]))) SEL ?_ fun _=>?_
  ·exact w hc22
  ·show zap ..;cases ho; exact zaj (zF (.inr rfl) (.v rfl (.v rfl .n)) (by decide))⟩
instance i172 {r_0 x_1}:FI ktab 172 (zX r_0 x_1) [.val (zad zr) r_0,.val zh x_1] (fun out=>[.val (zj .i64) (out)]):=⟨fun out ho=>by
 delta zX at ho;refine fn fun _ _=>?_;exact w ho⟩
instance i208 {m_0}:FI ktab 208 (zaQ m_0) [.val (zad zt) m_0] (fun out=>[.val (zj .i64) (out)]):=⟨fun out ho=>by
 delta zaQ at ho;refine fn fun _ _=>?_;exact w ho⟩
instance i194 {m_0 v_1 demand_2 slope_3}:FI ktab 194 (zaK m_0 v_1 demand_2 slope_3) [.val (zad zt) m_0,vI v_1,vI demand_2,vI slope_3] (fun out=>[.val (zj .i64) (out)]):=⟨fun out ho=>by
 delta zaK at ho;refine fn fun _ _=>?_;exact w ho⟩
instance i195 {m_0 v_1 demand_2 slope_3}:FI ktab 195 (zaD m_0 v_1 demand_2 slope_3) [.val (zad zt) m_0,vI v_1,vI demand_2,vI slope_3] (fun out=>[.val (zj .i64) (out)]):=⟨fun out ho=>by
 delta zaD at ho;refine fn fun _ _=>?_;exact w ho⟩
instance i196 {m_0 v_1 demand_2 slope_3}:FI ktab 196 (za0 m_0 v_1 demand_2 slope_3) [.val (zad zt) m_0,vI v_1,vI demand_2,vI slope_3] (fun out=>[.val (zj .i64) (out)]):=⟨fun out ho=>by
 delta za0 at ho;refine fn fun _ _=>?_;exact w ho⟩
instance i197 {m_0 v_1 demand_2 slope_3}:FI ktab 197 (za1 m_0 v_1 demand_2 slope_3) [.val (zad zt) m_0,vI v_1,vI demand_2,vI slope_3] (fun out=>[.val (zj .i64) (out)]):=⟨fun out ho=>by
 delta za1 at ho;refine fn fun _ _=>?_;exact w ho⟩
instance i183 {m_0 v_1 demand_2 slope_3}:FI ktab 183 (zb0 m_0 v_1 demand_2 slope_3) [.val (zad zt) m_0,vI v_1,vI demand_2,vI slope_3] (fun out=>[.val (ziw 4 (zj .i64)) (out)]):=⟨fun out ho=>by
 delta zb0 at ho;refine fn fun _ _=>?_;refine run 2 ?_;refine xal (zv:=.agg [.int .i64 0,.int .i64 0,.int .i64 0,.int .i64 0]) (es:=[.raw (.int .i64 0),.raw (.int .i64 0),.raw (.int .i64 0),.raw (.int .i64 0)]) (by kernel_rfl) fun b1=>?_;refine run 3 ?_;refine ztf (R:=(zj .i64)) (x:=0) ze2 (zc:=[.int .i64 0,.int .i64 0,.int .i64 0,.int .i64 0]) (by kernel_rfl) (zarr (fun _=>zint) rfl) (by decide) (.n rfl) rfl rfl ?_;intro b2;refine run 5 ?_;refine zku (X:=(Int×Int×Int)) (Y:=(Int)) (fun x=>[.val (zj .i64) (x.1),.val (zj .i64) (x.2.1),.val (zj .i64) (x.2.2)]) (fun y=>[.val (zj .i64) (y)]) (f:=(fun x=>zaK m_0 x.1 x.2.1 x.2.2)) (fun x y hf=>i194.ok _ hf) rfl (.n rfl) rfl rfl (.c (.t rfl) .n) .n ?_;refine run 1 ?_;refine zku (X:=(Int×Int×Int)) (Y:=(Int)) (fun x=>[.val (zj .i64) (x.1),.val (zj .i64) (x.2.1),.val (zj .i64) (x.2.2)]) (fun y=>[.val (zj .i64) (y)]) (f:=(fun x=>zaD m_0 x.1 x.2.1 x.2.2)) (fun x y hf=>i195.ok _ hf) rfl (.n rfl) rfl rfl (.c (.t rfl) .n) .n ?_;refine run 1 ?_;refine zku (X:=(Int×Int×Int)) (Y:=(Int)) (fun x=>[.val (zj .i64) (x.1),.val (zj .i64) (x.2.1),.val (zj .i64) (x.2.2)]) (fun y=>[.val (zj .i64) (y)]) (f:=(fun x=>za0 m_0 x.1 x.2.1 x.2.2)) (fun x y hf=>i196.ok _ hf) rfl (.n rfl) rfl rfl (.c (.t rfl) .n) .n ?_;refine run 1 ?_;refine zku (X:=(Int×Int×Int)) (Y:=(Int)) (fun x=>[.val (zj .i64) (x.1),.val (zj .i64) (x.2.1),.val (zj .i64) (x.2.2)]) (fun y=>[.val (zj .i64) (y)]) (f:=(fun x=>za1 m_0 x.1 x.2.1 x.2.2)) (fun x y hf=>i197.ok _ hf) rfl (.n rfl) rfl rfl (.c (.t rfl) .n) .n ?_
 refine zof (R:=(rFn ktab (Int×Int×Int) (Int) (fun x=>[.val (zj .i64) (x.1),.val (zj .i64) (x.2.1),.val (zj .i64) (x.2.2)]) (fun y=>[.val (zj .i64) (y)]))) (zc:=[.nilfunc,.nilfunc,.nilfunc,.nilfunc]) zAk (by kernel_rfl) (by rfl) (.n rfl) rfl rfl (.c (.t rfl) (.c (.t rfl) (.c (.t rfl) (.c (.t rfl) .n)))) (by rfl) ?_;refine run 3 ?_;obtain ⟨t17,ht17,ho⟩:=bnd ho;refine wlp ht17 [1,2,3,8,9,20] (fun s g=>([(21,vI (s.1))],[((.slice b2 0 4 1 (some 4)),.row (zj .i64) (s.2)),(.ptr b1 0,.box [.raw (.int .i64 0),.raw (.int .i64 0),.raw (.int .i64 0),.raw (.int .i64 0)])])) (fun b=>(.exit 0,fun g=>([],[((.slice b2 0 4 1 (some 4)),.row (zj .i64) (b)),(.ptr b1 0,.box [.raw (.int .i64 0),.raw (.int .i64 0),.raw (.int .i64 0),.raw (.int .i64 0)])]))) [] SEL (pk [0,1]) NE (fun s11 g12 _ ho=>?_) fun g18=>?_
 ·refine run 5 ?_;refine wct ho (fun hq13 ho=>?_) fun hq13 ho=>?_
  ·refine run 6 ?_;obtain ⟨x14,hx14,ho⟩:=bnd ho;refine run 10 ?_;obtain ⟨y15,hy15,ho⟩:=bnd ho;refine zgF (X:=(Int×Int×Int)) (Y:=(Int)) (f:=x14) (x:=(v_1,demand_2,slope_3)) hy15 (.n rfl) rfl rfl rfl (.t rfl) (.c (.t rfl) (.c (.t rfl) (.c (.t rfl) .n))) ?_;show zo ..;obtain ⟨x16,hx16,ho⟩:=bnd ho;refine run 6 ?_;cases ho; exact zah (lf [] [0,1])
  ·cases ho; exact zas (lf [] [0,1])
 ·show zap ..;refine run 2 ?_;refine zvy 0 (fun _ h=>by cases h<;>rfl) ze2 rfl (.n rfl) rfl rfl (.t rfl) ?_;refine zfZ 1 ze2 rfl (by rfl) (by decide) (.n rfl) rfl rfl (.t rfl) (.t rfl) (by rfl) ?_;refine run 1 ?_;cases ho; exact zaj (zF (.inr rfl) (.a 1 ze2 rfl rfl .n) (by decide))⟩
instance i184 {m_0 x_1}:FI ktab 184 (zaT m_0 x_1) [.val (zad zt) m_0,.val zh x_1] (fun out=>[.val (zj .i64) (out)]):=⟨fun out ho=>by
 delta zaT at ho;refine fn fun _ _=>?_;exact w ho⟩
end Go.Ai.TabYtppebpagcocogaaGreat
