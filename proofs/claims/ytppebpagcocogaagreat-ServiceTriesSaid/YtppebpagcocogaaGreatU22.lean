/- Written by program: walks through functions. -/
import Derived.Test.YtppebpagcocogaaGreatU11
import Derived.Test.YtppebpagcocogaaGreatU17
import Derived.Test.YtppebpagcocogaaGreatU21
import Derived.Test.YtppebpagcocogaaGreatU18
set_option linter.unusedSimpArgs false
set_option linter.unusedVariables false
set_option linter.unusedSectionVars false
namespace Go.Ai.TabYtppebpagcocogaaGreat
open Go Go.Ai Go.Ai.Sx Go.Proofs
attribute [local irreducible] zr
set_option maxRecDepth 100000
set_option maxHeartbeats 4000000
theorem zft {rec:Int->(List Connection)->(List zo)->Int->(List Int)->(List Line)->Int->Option (((Bool)×(List Int)×Int)⊕Unit)} (hrec:∀ {n_0 p_1 p_2 p_3 p_4 p_5 p_6} {out:(((Bool)×(List Int)×Int)⊕Unit)},rec n_0 p_1 p_2 p_3 p_4 p_5 p_6=some out->∀ (b_4:Nat) (hv_4_0:ze) (b_6:Nat),zzF (β:=Unit) ktab 87 [.val (zj .i64) n_0,.val (z5 (zb zk)) p_1,.val (z5 (zb (z5 zg))) p_2,.val (z5 (zj .i64)) p_3,.raw (.ptr b_4 0),.val (z5 (zb zav)) p_5,.raw (.ptr b_6 0),.val (zgp 87 [.val (z5 (zb zk)) (p_1),.val (z5 (zb (z5 zg))) (p_2),.val (z5 (zj .i64)) (p_3),.raw (.ptr b_4 0),.val (z5 (zb zav)) (p_5),.raw (.ptr b_6 0)]) ()] [(.ptr b_4 0,.box [.raw hv_4_0]),(hv_4_0,.row (zj .i64) (p_4)),(.ptr b_6 0,.box [vI (p_6)])] (λout:((Bool)×(List Int)×Int)=>[.val zau (out.1)]) (λout:((Bool)×(List Int)×Int)=>(λγ=>[(.ptr b_4 0,.box [.raw (gh γ 0)]),((gh γ 0),.row (zj .i64) (out.2.1)),(.ptr b_6 0,.box [vI (out.2.2)])])) (.iface 148 (.agg [])) out) {n_0:Int} {p_1:(List Connection)} {p_2:(List zo)} {p_3:Int} {p_4:(List Int)} {p_5:(List Line)} {p_6:Int} {out:(((Bool)×(List Int)×Int)⊕Unit)} (ho:zaY rec n_0 p_1 p_2 p_3 p_4 p_5 p_6=some out) (b_4:Nat) (hv_4_0:ze) (b_6:Nat):zzF (β:=Unit) ktab 87 [.val (zj .i64) n_0,.val (z5 (zb zk)) p_1,.val (z5 (zb (z5 zg))) p_2,.val (z5 (zj .i64)) p_3,.raw (.ptr b_4 0),.val (z5 (zb zav)) p_5,.raw (.ptr b_6 0),.val (zgp 87 [.val (z5 (zb zk)) (p_1),.val (z5 (zb (z5 zg))) (p_2),.val (z5 (zj .i64)) (p_3),.raw (.ptr b_4 0),.val (z5 (zb zav)) (p_5),.raw (.ptr b_6 0)]) ()] [(.ptr b_4 0,.box [.raw hv_4_0]),(hv_4_0,.row (zj .i64) (p_4)),(.ptr b_6 0,.box [vI (p_6)])] (λout:((Bool)×(List Int)×Int)=>[.val zau (out.1)]) (λout:((Bool)×(List Int)×Int)=>(λγ=>[(.ptr b_4 0,.box [.raw (gh γ 0)]),((gh γ 0),.row (zj .i64) (out.2.1)),(.ptr b_6 0,.box [vI (out.2.2)])])) (.iface 148 (.agg [])) out:=by
 refine zwS (F:=Tryz.f87) (by rfl) (by rfl) (by rfl) (λC=>?_);delta zaY at ho;obtain ⟨ta,hc,ho⟩:=bnd ho;refine gl2 hc ho [0,2,3,4,5,6,7,13,14] [0,1,2] [0,1,2] (λs g=>([(15,vI s)],[])) (λb=>(.exit 0,λg=>([],[]))) (λb=>(.ret,λg=>([(9,vB b)],[]))) [] (λsa ge _ ho=>?_) (λbb ho gd=>?_) λbc ho gd=>?_
 . refine gct ho (λhd ho=>?_) λhd ho=>?_
   . obtain ⟨xa,hl,ho⟩:=bnd ho;refine gal λbd=>?_;refine gfz 1 zk xa 0 [11] ?_;refine run 11 ?_;refine zar [7] (by kernel_rfl) ?_;refine wbr ho (λhe ho=>?_) λhe ho=>?_
     . refine gcl ho λyc hm ho=>?_;refine gct ho (λhf ho=>?_) λhf ho=>?_
       . exact lv [] [0,1,2] ho
       . exact lv [] [0,1,2] ho
     . refine gk ?_;exact lv [] [0,1,2] ho
   . exact lv [] [0,1,2] ho
 . refine gct ho (λhg ho=>?_) λhg ho=>?_
   . refine run 4 ?_;cases ho; exact zd0 (zdq [0,1,2] [hv_4_0] (.inr rfl) (.v rfl .n) rfl (by decide))
   . obtain ⟨xb,hn,tb,hh,ho⟩:=zhr ho;refine gl2 hh ho [0,3,7] [] [0,2,1] (λs g=>([(4,.raw (.ptr b_4 0)),(6,.raw (.ptr b_6 0))],[(.ptr b_4 0,.box [.raw (gh g 0)]),(.ptr b_6 0,.box [vI s.2]),((gh g 0),.row (zj .i64) s.1)])) (λb=>(.exit 2,λg=>([(4,.raw (.ptr b_4 0))],[(.ptr b_4 0,.box [.raw (gh g 0)]),(.ptr b_6 0,.box [vI b.2]),((gh g 0),.row (zj .i64) b.1)]))) (zyM (λb=>(.pan (.iface 148 (.agg [])),λg=>([],[]))) (λb=>(.ret,λg=>([(9,vB b.1)],[(.ptr b_4 0,.box [.raw (gh g 0)]),(.ptr b_6 0,.box [vI b.2.2]),((gh g 0),.row (zj .i64) b.2.1)])))) [hv_4_0] (λsb ga _ ho=>?_) (λbe ho gb=>?_) λba ho gb=>?_
     . refine run 2 ?_;refine zar [0,3] (by kernel_rfl) ?_;obtain ⟨xd,hp,ho⟩:=bnd ho;refine gct ho (λhi ho=>?_) λhi ho=>?_
       . refine gct ho (λhj ho=>?_) λhj ho=>?_
         . refine zur (by kernel_rfl) (by kernel_rfl) ?_;cases ho; exact id (lf [] [])
         . refine run 8 ?_;refine znx 3 ?_;refine zlm rfl zAn (.n rfl) rfl rfl (.t rfl) ?_;obtain ⟨ya,ha,ho⟩:=bnd ho;refine run 2 ?_;rcases ya with yb | yb
           . have ho:=zrH ho;refine zA7 ?_;refine zpy (ps:=[]) (es:=[vI (w64 (n_0+1))]) (cs:=[.val (z5 (zb zk)) p_1,.val (z5 (zb (z5 zg))) p_2,.val (z5 (zj .i64)) p_3,.raw (.ptr b_4 0),.val (z5 (zb zav)) p_5,.raw (.ptr b_6 0),.val (zgp 87 [.val (z5 (zb zk)) p_1,.val (z5 (zb (z5 zg))) p_2,.val (z5 (zj .i64)) p_3,.raw (.ptr b_4 0),.val (z5 (zb zav)) p_5,.raw (.ptr b_6 0)]) ()]) [0,2,1] [] (λ_ h=>by cases h) (hrec ha b_4 (gh ga 0) b_6) rfl rfl (by decide) rfl (.n rfl) rfl rfl rfl (.t rfl) (.c (.t rfl) .n) ?_;intro gc;show zr ..;refine gct ho (λhk ho=>?_) λhk ho=>?_
             . exact lv [(gh gc 0)] [0,2,1] ho
             . obtain ⟨xe,hr,ho⟩:=bnd ho;refine run 7 ?_;obtain ⟨xf,hs,ho⟩:=bnd ho;exact lv [(gh gc 0)] [0,2,1] ho
           . have ho:=zrI ho;refine zr5 (ps:=[]) (es:=[vI (w64 (n_0+1))]) (cs:=[.val (z5 (zb zk)) p_1,.val (z5 (zb (z5 zg))) p_2,.val (z5 (zj .i64)) p_3,.raw (.ptr b_4 0),.val (z5 (zb zav)) p_5,.raw (.ptr b_6 0),.val (zgp 87 [.val (z5 (zb zk)) p_1,.val (z5 (zb (z5 zg))) p_2,.val (z5 (zj .i64)) p_3,.raw (.ptr b_4 0),.val (z5 (zb zav)) p_5,.raw (.ptr b_6 0)]) ()]) [0,2,1] [] (hrec ha b_4 (gh ga 0) b_6) rfl rfl (by decide) rfl (.n rfl) rfl rfl (.t rfl) (.c (.t rfl) .n) rfl ?_;cases ho; exact id (lf [] [])
       . exact lv [(gh ga 0)] [0,1,2] ho
     . obtain ⟨xg,ht,ho⟩:=bnd ho;refine run 11 ?_;cases ho; exact zd0 (zdq [0,2,1] [(gh gb 0)] (.inr rfl) (.v rfl .n) rfl (by decide))
     . rcases ba with bf | bg
       . have ho:=zrH ho;cases ho; exact id (λfr h s=>zwO fr h s)
       . have ho:=zrI ho;cases ho; exact id (zdq [0,2,1] [(gh gb 0)] (.inr rfl) (.v rfl .n) rfl (by decide))
 . cases ho; exact id (zdq [0,1,2] [hv_4_0] (.inr rfl) (.v rfl .n) rfl (by decide))
theorem zee {k:Nat} {n_0 p_1 p_2 p_3 p_4 p_5 p_6 out} (ho:zaV k n_0 p_1 p_2 p_3 p_4 p_5 p_6=some out) (b_4:Nat) (hv_4_0:ze) (b_6:Nat):zzF (β:=Unit) ktab 87 [.val (zj .i64) n_0,.val (z5 (zb zk)) p_1,.val (z5 (zb (z5 zg))) p_2,.val (z5 (zj .i64)) p_3,.raw (.ptr b_4 0),.val (z5 (zb zav)) p_5,.raw (.ptr b_6 0),.val (zgp 87 [.val (z5 (zb zk)) (p_1),.val (z5 (zb (z5 zg))) (p_2),.val (z5 (zj .i64)) (p_3),.raw (.ptr b_4 0),.val (z5 (zb zav)) (p_5),.raw (.ptr b_6 0)]) ()] [(.ptr b_4 0,.box [.raw hv_4_0]),(hv_4_0,.row (zj .i64) (p_4)),(.ptr b_6 0,.box [vI (p_6)])] (λout:((Bool)×(List Int)×Int)=>[.val zau (out.1)]) (λout:((Bool)×(List Int)×Int)=>(λγ=>[(.ptr b_4 0,.box [.raw (gh γ 0)]),((gh γ 0),.row (zj .i64) (out.2.1)),(.ptr b_6 0,.box [vI (out.2.2)])])) (.iface 148 (.agg [])) out:=by
 induction k generalizing n_0 p_1 p_2 p_3 p_4 p_5 p_6 out b_4 hv_4_0 b_6 with
 | zero=>cases ho
 | succ k ih=>exact zft (λh b_4 hv_4_0 b_6=>ih h b_4 hv_4_0 b_6) ho b_4 hv_4_0 b_6
instance i43 {p_0 l_1 headway_2 connections_3}:FI ktab 43 (zbv p_0 l_1 headway_2 connections_3) [.val zaP p_0,.val (zb zav) l_1,vI headway_2,.val (zb zk) connections_3] (λout=>[.val (zb (zj .i64)) out.1,wI out.2]):=⟨λout ho=>by
 refine zwR (D:=D43) (by kernel_rfl) rfl rfl (by exact Nat.le_of_ble_eq_true rfl) ⟨_,_,_,rfl⟩ rfl rfl (by kernel_rfl) (by kernel_rfl) zAF (λC hC=>?_);delta zbv at ho;refine gal λb1=>?_;refine gal λb2=>?_;refine gcl ho λy3 hy3 ho=>?_;intro v4;show zr ..;refine gal λb5=>?_;refine ze8 (zfP 1 [19] rfl rfl ⟨rfl,trivial⟩) ?_;refine run 1 ?_;refine ze8 (ze9 (R:=(zb (z5 zg))) (a:=y3.1) 0 [10] (zt rfl) rfl rfl ⟨rfl,trivial⟩) ?_;obtain ⟨ca,hc,ho⟩:=bnd ho;refine run 4 ?_;refine gcx ca [5,6,7,8,9,10] [0,1] (λt=>(.normal,λ_=>([(33,vB t)],[]))) ?_ λ_=>?_
 . have ho:=hc;refine wbr ho (λhd ho=>?_) λhd ho=>?_
   . exact lv [] [0,1] ho
   . refine gcl ho λyc hh ho=>?_;refine wbr ho (λhe ho=>?_) λhe ho=>?_
     . exact lv [] [0,1] ho
     . refine gcl ho λyd hi ho=>?_;exact lv [] [0,1] ho
 . refine gct ho (λhf ho=>?_) λhf ho=>?_
   . refine run 2 ?_;refine zgd 1 (U27).sz rfl (by exact Nat.le_of_ble_eq_true rfl) (.n rfl) rfl rfl (.t rfl) (.nil (R:=(zj .i64))) rfl rfl ?_;refine run 2 ?_;cases ho; exact zd0 (zmc (zcT (.inr rfl) (.b 1 iu' (zt rfl) rfl rfl (.b 0 iu' (zt rfl) rfl rfl .n)) (by decide)))
   . refine run 3 ?_;refine zl6 (.n rfl) rfl rfl .n (.c (.t rfl) (.c (.t rfl) .n)) ?_;refine gal λba=>?_;obtain ⟨xa,hj,ho⟩:=bnd ho;refine gmk λva=>?_;refine ze8 (zcS (zj .i64)) ?_;refine xal (zv:=.nilslice) (es:=[.raw .nilslice]) (by kernel_rfl) λbb=>?_;refine zb4 0 2 (U27).sz rfl rfl (by exact Nat.le_of_ble_eq_true rfl) (.n rfl) rfl rfl (.t rfl) (.t rfl) (by rfl) ?_;refine gal λbc=>?_;refine run 3 ?_;refine zl6 (.n rfl) rfl rfl .n (.c (.t rfl) (.c (.t rfl) (.c (.t rfl) (.c (.t rfl) (.c (.t rfl) (.c (.t rfl) (.c (.t rfl) .n))))))) ?_;refine zgd 0 (zAn).sz rfl (by exact Nat.le_of_ble_eq_true rfl) (.n rfl) rfl rfl (.t rfl) (.t rfl) rfl rfl ?_;refine ze8 (zqx 0 [14] (zue (g:=87) (cs:=[.val (z5 (zb zk)) connections_3,.val (z5 (zb (z5 zg))) y3.1,.val (z5 (zj .i64)) headway_2,.raw (.ptr bb 0),.val (z5 (zb zav)) l_1,.raw (.ptr ba 0)]) rfl) rfl rfl ⟨rfl,trivial⟩) ?_;refine run 3 ?_;refine znx 1 ?_;refine zlm rfl zAn (.n rfl) rfl rfl (.t rfl) ?_;obtain ⟨ya,ha,ho⟩:=bnd ho;rcases ya with yb | yb
     . have ho:=zrH ho;refine zA7 ?_;refine zpy (ps:=[]) (es:=[vI 1]) (cs:=[.val (z5 (zb zk)) connections_3,.val (z5 (zb (z5 zg))) y3.1,.val (z5 (zj .i64)) headway_2,.raw (.ptr bb 0),.val (z5 (zb zav)) l_1,.raw (.ptr ba 0),.val (zgp 87 [.val (z5 (zb zk)) connections_3,.val (z5 (zb (z5 zg))) y3.1,.val (z5 (zj .i64)) headway_2,.raw (.ptr bb 0),.val (z5 (zb zav)) l_1,.raw (.ptr ba 0)]) ()]) [0,2,3] [1,4,5] (λ_ h=>by cases h) (zee ha bb va ba) rfl rfl (by decide) rfl (.n rfl) rfl rfl rfl (.t rfl) (.c (.i (by decide) (by decide)) .n) ?_;intro ga;show zr ..;refine gct ho (λhg ho=>?_) λhg ho=>?_
       . refine run 2 ?_;refine zgd 5 (U27).sz rfl (by exact Nat.le_of_ble_eq_true rfl) (.n rfl) rfl rfl (.t rfl) (.nil (R:=(zj .i64))) rfl rfl ?_;refine run 2 ?_;cases ho; exact zd0 (zmc (zcT (.inr rfl) (.b 5 iu' (zt rfl) rfl rfl (.b 4 iu' (zt rfl) rfl rfl .n)) (by decide)))
       . refine run 4 ?_;refine ze8 (zcV 1 0 (q:=0) [42] rfl rfl rfl rfl (by rfl) ⟨rfl,trivial⟩) ?_;refine run 3 ?_;cases ho; exact zd0 (zmc (zcT (.inr rfl) (.b 4 iu' (zt rfl) rfl rfl (.b 3 iu' (zt rfl) rfl rfl .n)) (by decide)))
     . have ho:=zrI ho;refine zr5 (ps:=[]) (es:=[vI 1]) (cs:=[.val (z5 (zb zk)) connections_3,.val (z5 (zb (z5 zg))) y3.1,.val (z5 (zj .i64)) headway_2,.raw (.ptr bb 0),.val (z5 (zb zav)) l_1,.raw (.ptr ba 0),.val (zgp 87 [.val (z5 (zb zk)) connections_3,.val (z5 (zb (z5 zg))) y3.1,.val (z5 (zj .i64)) headway_2,.raw (.ptr bb 0),.val (z5 (zb zav)) l_1,.raw (.ptr ba 0)]) ()]) [0,2,3] [1,4,5] (zee ha bb va ba) rfl rfl (by decide) rfl (.n rfl) rfl rfl (.t rfl) (.c (.i (by decide) (by decide)) .n) rfl ?_;cases ho; exact id (zuq (ks:=[2,1]) (js:=[0]) rfl zAG rfl (by decide) rfl (by exact Nat.le_of_ble_eq_true rfl) (zcT (.inr rfl) (.b 0 iu' (zt rfl) rfl rfl (.b 1 iu' (zt rfl) rfl rfl .n)) (by decide)))⟩
instance i117 {h_0 l_1 d_2 o_3 line_4}:FI ktab 117 (zbe h_0 l_1 d_2 o_3 line_4) [vI h_0,.val (zb zk) l_1,.val (zb (zj .i64)) d_2,.val (zb (zj .i64)) o_3,vI line_4] (λout=>[wB out]):=⟨λout ho=>by
 delta zbe at ho;refine fn λ_ _=>?_;obtain ⟨ta,ha,ho⟩:=bnd ho;refine gl2 ha ho [0,1,2,3,4] [] [] (λs g=>([(11,vI s)],[])) (λb=>(.exit 0,λg=>([],[]))) (λb=>(.ret,λg=>([(10,vB b)],[]))) [] (λsa gb _ ho=>?_) (λba ho ga=>?_) λbb ho ga=>?_
 . refine gct ho (λhc ho=>?_) λhc ho=>?_
   . obtain ⟨xa,he,ho⟩:=bnd ho;refine gal λbc=>?_;refine gfz 1 zk xa 0 [12] ?_;refine wbr ho (λhd ho=>?_) λhd ho=>?_
     . refine run 11 ?_;exact we ho
     . refine gk ?_;exact we ho
   . exact lv [] [] ho
 . exact we ho
 . exact rv ho⟩
theorem zgq {rec:Int->(List Connection)->(List Int)->(List Int)->Int->Int->Option ((Int×Bool)×(List Int))} (hrec:∀ {h_0 l_1 d_2 o_3 line_4 tries_5} {out:((Int×Bool)×(List Int))},rec h_0 l_1 d_2 o_3 line_4 tries_5=some out->∀ (v_3:ze),zjn ktab 88 [.val (zj .i64) h_0,.val (zb zk) l_1,.val (zb (zj .i64)) d_2,.raw v_3,.val (zj .i64) line_4,.val (zj .i64) tries_5] [(v_3,.row (zj .i64) (o_3))] [.val (zj .i64) (out.1.1),.val zau (out.1.2)] (λγ=>[(v_3,.row (zj .i64) (out.2))])) {h_0:Int} {l_1:(List Connection)} {d_2:(List Int)} {o_3:(List Int)} {line_4:Int} {tries_5:Int} {out:((Int×Bool)×(List Int))} (ho:zbw rec h_0 l_1 d_2 o_3 line_4 tries_5=some out) (v_3:ze):zjn ktab 88 [.val (zj .i64) h_0,.val (zb zk) l_1,.val (zb (zj .i64)) d_2,.raw v_3,.val (zj .i64) line_4,.val (zj .i64) tries_5] [(v_3,.row (zj .i64) (o_3))] [.val (zj .i64) (out.1.1),.val zau (out.1.2)] (λγ=>[(v_3,.row (zj .i64) (out.2))]):=by
 refine zho (F:=Tryz.f88) (by rfl) (by rfl) (by rfl) (λC=>?_);delta zbw at ho;refine gct ho (λhq1 ho=>?_) λhq1 ho=>?_
 . refine run 6 ?_;cases ho; exact zd0 (zdq [0] [] (.inr rfl) (.v rfl (.v rfl .n)) rfl (by decide))
 . refine gct ho (λhq2 ho=>?_) λhq2 ho=>?_
   . obtain ⟨ta,ha,ho⟩:=bnd ho;refine gl2 ha ho [0,1,2,3,4,14] [] [0] (λs g=>([(5,vI s.1),(15,vI s.2.1)],[(v_3,.row (zj .i64) s.2.2)])) (λb=>(.exit 0,λg=>([(5,vI b.1)],[(v_3,.row (zj .i64) b.2)]))) (λb=>(.ret,λg=>([(12,vI b.1),(13,vB b.2.1)],[(v_3,.row (zj .i64) b.2.2)]))) [] (λsa gc _ ho=>?_) (λba ho ga=>?_) λbb ho ga=>?_
     . refine gct ho (λhc ho=>?_) λhc ho=>?_
       . refine gct ho (λhd ho=>?_) λhd ho=>?_
         . refine gct ho (λhe ho=>?_) λhe ho=>?_
           . exact lv [] [0] ho
           . obtain ⟨xa,hE,ho⟩:=bnd ho;refine gcl ho λya hF ho=>?_;refine gct ho (λhf ho=>?_) λhf ho=>?_
             . exact lv [] [0] ho
             . obtain ⟨yb,hg,ho⟩:=bnd ho;refine gcm [0] [] (hrec hg v_3) ?_;intro gd;show zr ..;refine wbr ho (λhh ho=>?_) λhh ho=>?_
               . refine gk ?_;exact lv [] [0] ho
               . refine gct ho (λhi ho=>?_) λhi ho=>?_
                 . exact lv [] [0] ho
                 . exact lv [] [0] ho
         . refine gct ho (λhj ho=>?_) λhj ho=>?_
           . exact lv [] [0] ho
           . obtain ⟨xb,hG,ho⟩:=bnd ho;refine gcl ho λyc hH ho=>?_;refine gct ho (λhk ho=>?_) λhk ho=>?_
             . exact lv [] [0] ho
             . obtain ⟨yd,hl,ho⟩:=bnd ho;refine gcm [0] [] (hrec hl v_3) ?_;intro ge;show zr ..;refine wbr ho (λhm ho=>?_) λhm ho=>?_
               . refine gk ?_;exact lv [] [0] ho
               . refine gct ho (λhn ho=>?_) λhn ho=>?_
                 . exact lv [] [0] ho
                 . exact lv [] [0] ho
       . exact lv [] [0] ho
     . refine run 6 ?_;cases ho; exact zd0 (zdq [0] [] (.inr rfl) (.v rfl (.v rfl .n)) rfl (by decide))
     . cases ho; exact id (zdq [0] [] (.inr rfl) (.v rfl (.v rfl .n)) rfl (by decide))
   . obtain ⟨tb,hp,ho⟩:=bnd ho;refine gl2 hp ho [0,1,2,3,4,14] [] [0] (λs g=>([(5,vI s.1),(15,vI s.2.1)],[(v_3,.row (zj .i64) s.2.2)])) (λb=>(.exit 0,λg=>([(5,vI b.1)],[(v_3,.row (zj .i64) b.2)]))) (λb=>(.ret,λg=>([(12,vI b.1),(13,vB b.2.1)],[(v_3,.row (zj .i64) b.2.2)]))) [] (λsb gf _ ho=>?_) (λbc ho gb=>?_) λbd ho gb=>?_
     . refine gct ho (λhr ho=>?_) λhr ho=>?_
       . refine gct ho (λhs ho=>?_) λhs ho=>?_
         . refine gct ho (λht ho=>?_) λht ho=>?_
           . exact lv [] [0] ho
           . obtain ⟨xd,hI,ho⟩:=bnd ho;refine gcl ho λye hJ ho=>?_;refine gct ho (λhu ho=>?_) λhu ho=>?_
             . exact lv [] [0] ho
             . obtain ⟨yf,hv,ho⟩:=bnd ho;refine gcm [0] [] (hrec hv v_3) ?_;intro gg;show zr ..;refine wbr ho (λhw ho=>?_) λhw ho=>?_
               . refine gk ?_;exact lv [] [0] ho
               . refine gct ho (λhy ho=>?_) λhy ho=>?_
                 . exact lv [] [0] ho
                 . exact lv [] [0] ho
         . refine gct ho (λhz ho=>?_) λhz ho=>?_
           . exact lv [] [0] ho
           . obtain ⟨xe,hK,ho⟩:=bnd ho;refine gcl ho λyg hL ho=>?_;refine gct ho (λhA ho=>?_) λhA ho=>?_
             . exact lv [] [0] ho
             . obtain ⟨yh,hB,ho⟩:=bnd ho;refine gcm [0] [] (hrec hB v_3) ?_;intro gh;show zr ..;refine wbr ho (λhC ho=>?_) λhC ho=>?_
               . refine gk ?_;exact lv [] [0] ho
               . refine gct ho (λhD ho=>?_) λhD ho=>?_
                 . exact lv [] [0] ho
                 . exact lv [] [0] ho
       . exact lv [] [0] ho
     . refine run 6 ?_;cases ho; exact zd0 (zdq [0] [] (.inr rfl) (.v rfl (.v rfl .n)) rfl (by decide))
     . cases ho; exact id (zdq [0] [] (.inr rfl) (.v rfl (.v rfl .n)) rfl (by decide))
theorem ziR {k:Nat} {h_0 l_1 d_2 o_3 line_4 tries_5 out} (ho:zaH k h_0 l_1 d_2 o_3 line_4 tries_5=some out) (v_3:ze):zjn ktab 88 [.val (zj .i64) h_0,.val (zb zk) l_1,.val (zb (zj .i64)) d_2,.raw v_3,.val (zj .i64) line_4,.val (zj .i64) tries_5] [(v_3,.row (zj .i64) (o_3))] [.val (zj .i64) (out.1.1),.val zau (out.1.2)] (λγ=>[(v_3,.row (zj .i64) (out.2))]):=by
 induction k generalizing h_0 l_1 d_2 o_3 line_4 tries_5 out v_3 with
 | zero=>cases ho
 | succ k ih=>exact zgq (λh v_3=>ih h v_3) ho v_3
instance i44 {p_0 lines_1 h_2 l_3}:FI ktab 44 (zdc p_0 lines_1 h_2 l_3) [.val zaP p_0,.val (zb zav) lines_1,vI h_2,.val (zb zk) l_3] (λout=>[.row (zj .i64) out.1,wI out.2]):=⟨λout ho=>by
 delta zdc at ho;refine fn λ_ _=>?_;refine gnr (zj .i64) ?_;refine run 5 ?_;refine ziy (R:=zlp) zAq (.n rfl) rfl rfl rfl (.p (.t rfl) rfl (.z (λ_=>zns) (.z (λ_=>znil) (.n rfl)))) ?_;refine gal λb1=>?_;refine zhY 0 zAl rfl (zq (zt rfl) (zq (zt rfl) (zq (zt rfl) za7 rfl) rfl) rfl) (by rfl) (.n rfl) rfl rfl (.t rfl) (.t rfl) (by rfl) ?_;refine ze8 (zen (q:=1) 0 rfl rfl rfl) ?_;refine ze8 (zcS (zj .i64)) ?_;obtain ⟨ta,ha,ho⟩:=bnd ho;refine glp ha [1,2,3,4,10] [] [1,0] (λs g=>([(11,vI s.1)],[(.ptr b1 0,.box [.val (zb zav) lines_1,.raw (gh g 0),.val (zb (zj .i64)) ([])]),((gh g 0),.row (zj .i64) s.2)])) (λb=>(.exit 0,λg=>([],[(.ptr b1 0,.box [.val (zb zav) lines_1,.raw (gh g 0),.val (zb (zj .i64)) ([])]),((gh g 0),.row (zj .i64) b)]))) [.nilslice] (λs8 g9 _ ho=>?_) λgb=>?_
 . refine gct ho (λhc ho=>?_) λhc ho=>?_
   . obtain ⟨xb,hi,ho⟩:=bnd ho;refine gap λva=>?_;refine run 1 ?_;refine zb4 1 0 (U27).sz rfl rfl (by exact Nat.le_of_ble_eq_true rfl) (.n rfl) rfl rfl (.t rfl) (.t rfl) (by rfl) ?_;exact lv [va] [1,0] ho
   . exact lv [(gh g9 0)] [0,1] ho
 . obtain ⟨xa,hj,ho⟩:=bnd ho;refine gmk λvd=>?_;refine run 1 ?_;refine ze8 (zfP 0 [33] rfl rfl ⟨rfl,trivial⟩) ?_;refine gnr (zj .i64) ?_;refine run 7 ?_;refine znh (zcV 2 1 (q:=1) [] rfl rfl rfl rfl (by rfl) trivial) ?_;obtain ⟨tb,hd,ho⟩:=bnd ho;refine glp hd [1,2,3,4,10] [] [1,0] (λs g=>([(12,.raw (gh g 0)),(13,vI s.2)],[(.ptr b1 0,.box [.val (zb zav) lines_1,.val (zb (zj .i64)) ta,.val (zb (zj .i64)) xa]),((gh g 0),.row (zj .i64) s.1)])) (λb=>(.exit 2,λg=>([(12,.raw (gh g 0))],[((gh g 0),.row (zj .i64) b)]))) [.nilslice] (λsa ga _ ho=>?_) λgc=>?_
   . refine gct ho (λhe ho=>?_) λhe ho=>?_
     . refine run 3 ?_;refine zar [2] (by kernel_rfl) ?_;refine glb (lines_1,ta,xa,()) 0 ?_;obtain ⟨xd,hk,ho⟩:=bnd ho;refine gcl ho λya hl ho=>?_;obtain ⟨xe,hm,ho⟩:=bnd ho;refine gap λvb=>?_;exact lv [vb] [1,0] ho
     . exact lv [(gh ga 0)] [1] ho
   . obtain ⟨xf,hn,ho⟩:=bnd ho;refine gmk λvc=>?_;refine run 8 ?_;refine ze8 (zfP 1 [12,57] rfl rfl ⟨rfl,rfl,trivial⟩) ?_;obtain ⟨yb,hf,ho⟩:=bnd ho;refine gcm [0] [] (ziR hf vc) ?_;intro gd;show zr ..;refine gct ho (λhg ho=>?_) λhg ho=>?_
     . refine gnr (zj .i64) ?_;exact we ho
     . refine gct ho (λhh ho=>?_) λhh ho=>?_
       . refine gnr (zj .i64) ?_;exact we ho
       . exact we ho⟩
end Go.Ai.TabYtppebpagcocogaaGreat