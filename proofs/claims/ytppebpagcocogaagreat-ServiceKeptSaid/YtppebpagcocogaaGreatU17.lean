/- service.Connect: its deferred closure. -/
import Derived.Test.YtppebpagcocogaaGreatU11
import Derived.Test.YtppebpagcocogaaGreatU7
set_option linter.unusedSimpArgs false
set_option linter.unusedVariables false
set_option linter.unusedSectionVars false
namespace Go.Ai.TabYtppebpagcocogaaGreat
open Go Go.Ai Go.Ai.Sx Go.Proofs
set_option maxRecDepth 100000
theorem zAF (fr:Operand->ze) (h:za) (x:ze) (h2:za) (hx:aop ktab fr h D43.mko.op=some (.val x h2)) (h3:za):∃ m,aclose (aexec ktab m) D43 x .niliface h3=some h3:=by
 have e:D43.mko.op=.makeFunc (.func 86) #[] #[.tmp 8,.tmp 9]:=by kernel_rfl
 rw [e] at hx;simp only [aop,zct] at hx;cases hx;refine ⟨10, ?_⟩;show aclose (aexec ktab 10) D43 (.func (.func 86) [] [fr (.tmp 8),fr (.tmp 9)]) .niliface h3=some h3;generalize fr (.tmp 8)=a;generalize fr (.tmp 9)=b;kernel_rfl
theorem zAG {b8 b9:Nat} {e8 e9:TE}:zzE ktab D43 [.raw (.ptr b8 0),.raw (.ptr b9 0)] (.iface 148 (.agg [])) [(.ptr b8 0,.box [e8]),(.ptr b9 0,.box [e9])] [(.ptr b8 0,.box [.val (zb (zj .i64)) []]),(.ptr b9 0,.box [.val (zj .i64) 8])]:=zwQ λC=>by
 refine zkK ?_;refine zev ?_;refine zng (.n rfl) rfl rfl (.t rfl) ?_;refine zaj (t:=7) (e:=.val zau true) rfl (.n rfl) rfl (λz fr h s=>⟨.bool true, ?_,by simp only [TE.ok]; exact zdK⟩) ?_
 . have e1:fr.op (.tmp 6)=.iface 148 (.agg []):=(show Opd _ (.tmp 6) (.raw (.iface 148 (.agg []))) from .t rfl).raw s.fr;show zS h (abin ktab .neq 20 (fr.op (.tmp 6)) .niliface)=_;rw [e1];kernel_rfl
 refine zpw rfl ?_;refine znl (.t rfl) (λ_=>?_) (λhq=>by cases hq);refine zkK ?_;refine zkK ?_;refine zev ?_;refine zng (.n rfl) rfl rfl (.t rfl) ?_;refine zaj (t:=10) (e:=.tup [.val zcR (),.val zau true]) rfl (.n rfl) rfl (λz fr h s=>⟨.tuple [.agg [],.bool true], ?_, ?_⟩) ?_
 . have e1:fr.op (.tmp 9)=.iface 148 (.agg []):=(show Opd _ (.tmp 9) (.raw (.iface 148 (.agg []))) from .t rfl).raw s.fr;show zS h (aassert ktab (fr.op (.tmp 9)) 148 true)=_;rw [e1];kernel_rfl
 . simp only [TE.ok];refine ⟨_,rfl, ?_⟩;simp only [zz,TE.ok];exact ⟨_,_,rfl,⟨rfl,rfl⟩,_,_,rfl,zdK,rfl⟩
 refine zng (.n rfl) rfl rfl (.t rfl) ?_;refine zwt rfl (.n rfl) rfl rfl (.t rfl) ?_;refine zwt rfl (.n rfl) rfl rfl (.t rfl) ?_;refine zov (zv:=.agg []) (es:=[]) (by kernel_rfl) (λ_=>rfl) rfl (.n rfl) rfl rfl ?_;intro b3;refine zhY (R:=zcR) (a:=()) 0 ⟨by kernel_rfl,by kernel_rfl⟩ rfl za7 rfl (.n rfl) rfl rfl (.t rfl) (.t rfl) rfl ?_;refine zdY (.n rfl) rfl rfl (.t rfl) ?_;refine zpw rfl ?_;refine zkK ?_;refine zev ?_;refine zng (.n rfl) rfl rfl (.t rfl) ?_;refine zyw (.n rfl) rfl rfl (.t rfl) ?_;refine zpw rfl ?_;refine znl (.t rfl) (λhq=>by cases hq) (λ_=>?_);refine ziz rfl ?_;refine zev ?_;refine zgd (R:=zb (zj .i64)) 1 (by kernel_rfl) rfl (by exact Nat.le_of_ble_eq_true rfl) (.n rfl) rfl rfl (.t rfl) .nil rfl rfl ?_;refine zgd (R:=zj .i64) 2 (by kernel_rfl) rfl (by exact Nat.le_of_ble_eq_true rfl) (.n rfl) rfl rfl (.t rfl) (.i (by decide) (by decide)) rfl rfl ?_;exact ziw λfr h ⟨z,s⟩=>zwP fr h ⟨z,s.drop (k:=0) rfl⟩
end Go.Ai.TabYtppebpagcocogaaGreat
/- Written by program: walks through functions. -/
namespace Go.Ai.TabYtppebpagcocogaaGreat
open Go Go.Ai Go.Ai.Sx Go.Proofs
attribute [local irreducible] zr
set_option maxRecDepth 100000
set_option maxHeartbeats 4000000
instance i59 {n_0 low_1 high_2}:FI ktab 59 (z4 n_0 low_1 high_2) [vI n_0,vI low_1,vI high_2] (λout=>[wB out]):=⟨λout ho=>by
 delta z4 at ho;refine fn λ_ _=>?_;obtain ⟨c4,hc4,ho⟩:=bnd ho;refine run 5 ?_;refine gcx c4 [] [] (λt=>(.normal,λ_=>([(6,vB t)],[]))) ?_ λ_=>?_
 . exact we hc4
 . exact rv ho⟩
instance i60 {s_0}:FI ktab 60 (zbc s_0) [.val zco s_0] (λout=>[wB out]):=⟨λout ho=>by
 delta zbc at ho;refine fn λ_ _=>?_;obtain ⟨c4,hc4,ho⟩:=bnd ho;refine run 6 ?_;refine gcx c4 [] [] (λt=>(.normal,λ_=>([(2,vB t)],[]))) ?_ λ_=>?_
 . exact we hc4
 . exact rv ho⟩
instance i61 {k_0}:FI ktab 61 (zax k_0) [vI k_0] (λout=>[wI out]):=⟨λout ho=>by
 delta zax at ho;refine fn λ_ _=>?_;refine gct ho (λhq1 ho=>?_) λhq1 ho=>?_
 . exact we ho
 . refine gct ho (λhq2 ho=>?_) λhq2 ho=>?_
   . exact we ho
   . refine gct ho (λhq3 ho=>?_) λhq3 ho=>?_
     . exact we ho
     . refine gct ho (λhq4 ho=>?_) λhq4 ho=>?_
       . refine gct ho (λhq5 ho=>?_) λhq5 ho=>?_
         . exact we ho
         . exact Bool.noConfusion (hq4.symm.trans hq5)
       . refine gct ho (λhq6 ho=>?_) λhq6 ho=>?_
         . refine gct ho (λhq7 ho=>?_) λhq7 ho=>?_
           . exact we ho
           . exact Bool.noConfusion (hq6.symm.trans hq7)
         . exact we ho⟩
instance i62 {p_0 rail_1}:FI ktab 62 (zc8 p_0 rail_1) [.val zaP p_0,vI rail_1] (λout=>[.row zco out]):=⟨λout ho=>by
 delta zc8 at ho;refine fn λ_ _=>?_;refine gnr zco ?_;obtain ⟨x1,hx1,ho⟩:=bnd ho;refine gal λb2=>?_;refine gfz 1 zdS x1 0 [5] ?_;obtain ⟨x3,hx3,ho⟩:=bnd ho;refine run 10 ?_;refine zyD (R:=zco) is' iy' (.n rfl) rfl rfl (.c (.t rfl) .n) rfl (by decide) ?_;intro v4;obtain ⟨x5,hx5,ho⟩:=bnd ho;refine gap λv6=>?_;obtain ⟨x7,hx7,x8,hx8,ho⟩:=zhr ho;refine gap λv9=>?_;exact we ho⟩
instance i101 {n_0}:FI ktab 101 (zeB n_0) [vI n_0] (λout=>[wI out]):=⟨λout ho=>by
 delta zeB at ho;refine fn λ_ _=>?_;obtain ⟨t9,ht9,ho⟩:=bnd ho;refine glp ht9 [0] [] [] (λs g=>([(3,vI s.1),(4,vI s.2)],[])) (λb=>(.exit 0,λg=>([(3,vI b)],[]))) [] (λs4 g5 _ ho=>?_) λga=>?_
 . exact we ho
 . exact we ho⟩
instance i63 {a_0 b_1}:FI ktab 63 (zc9 a_0 b_1) [.val zco a_0,.val zco b_1] (λout=>[wI out]):=fw
instance i64 {p_0 e_1}:FI ktab 64 (zfb p_0 e_1) [.val zaP p_0,.val zP e_1] (λout=>[wI out]):=fw
instance i21 {p_0}:FI ktab 21 (zcO p_0) [.val zaP p_0] (λout=>[wB out]):=⟨λout ho=>by
 delta zcO at ho;refine fn λ_ _=>?_;obtain ⟨c4,hc4,ho⟩:=bnd ho;refine run 7 ?_;refine gcx c4 [1] [] (λt=>(.normal,λ_=>([(27,vB t)],[]))) ?_ λ_=>?_
 . exact we hc4
 . refine gct ho (λhq8 ho=>?_) λhq8 ho=>?_
   . exact we ho
   . obtain ⟨ta,ha,ho⟩:=bnd ho;refine gl2 ha ho [1] [] [] (λs g=>([(3,vI s)],[])) (λb=>(.exit 0,λg=>([],[]))) (λb=>(.ret,λg=>([(2,vB b)],[]))) [] (λsb gl _ ho=>?_) (λba ho gd=>?_) λbb ho gd=>?_
     . refine gct ho (λhc ho=>?_) λhc ho=>?_
       . obtain ⟨xa,hL,ho⟩:=bnd ho;refine gal λbc=>?_;refine gfz 1 zbW xa 0 [4] ?_;refine wbr ho (λhd ho=>?_) λhd ho=>?_
         . refine gk ?_;refine gcl ho λyb hM ho=>?_;refine gcl ho λyc hN ho=>?_;refine wbr ho (λhe ho=>?_) λhe ho=>?_
           . refine gk ?_;exact we ho
           . refine gcl ho λyd hO ho=>?_;refine wbr ho (λhf ho=>?_) λhf ho=>?_
             . refine gk ?_;exact we ho
             . refine gcl ho λye hP ho=>?_;refine wbr ho (λhg ho=>?_) λhg ho=>?_
               . refine gk ?_;exact we ho
               . refine run 3 ?_;exact we ho
         . refine gct ho (λhh ho=>?_) λhh ho=>?_
           . refine gcl ho λyf hQ ho=>?_;refine gcl ho λyg hR ho=>?_;refine wbr ho (λhi ho=>?_) λhi ho=>?_
             . refine gk ?_;exact we ho
             . refine gcl ho λyh hS ho=>?_;refine wbr ho (λhj ho=>?_) λhj ho=>?_
               . refine gk ?_;exact we ho
               . refine gcl ho λyi hT ho=>?_;refine wbr ho (λhk ho=>?_) λhk ho=>?_
                 . refine gk ?_;exact we ho
                 . exact we ho
           . refine gcl ho λyj hU ho=>?_;refine wbr ho (λhl ho=>?_) λhl ho=>?_
             . refine gk ?_;exact we ho
             . refine gcl ho λyk hV ho=>?_;refine wbr ho (λhm ho=>?_) λhm ho=>?_
               . refine gk ?_;exact we ho
               . refine gcl ho λyl hW ho=>?_;refine wbr ho (λhn ho=>?_) λhn ho=>?_
                 . refine gk ?_;exact we ho
                 . exact we ho
       . exact lv [] [] ho
     . obtain ⟨tb,hp,ho⟩:=bnd ho;refine gl2 hp ho [1] [] [] (λs g=>([(6,vI s)],[])) (λb=>(.exit 2,λg=>([],[]))) (λb=>(.ret,λg=>([(2,vB b)],[]))) [] (λsc gm _ ho=>?_) (λbd ho ge=>?_) λbe ho ge=>?_
       . refine gct ho (λhr ho=>?_) λhr ho=>?_
         . obtain ⟨xb,hX,ho⟩:=bnd ho;refine gal λbf=>?_;refine gfz 1 zdS xb 0 [7] ?_;refine gcl ho λym hY ho=>?_;refine wbr ho (λhs ho=>?_) λhs ho=>?_
           . refine gk ?_;exact we ho
           . refine gcl ho λyn hZ ho=>?_;refine wbr ho (λht ho=>?_) λht ho=>?_
             . refine gk ?_;exact we ho
             . refine wbr ho (λhu ho=>?_) λhu ho=>?_
               . refine gk ?_;exact we ho
               . refine gcl ho λyo haa ho=>?_;refine wbr ho (λhv ho=>?_) λhv ho=>?_
                 . refine gk ?_;exact we ho
                 . refine gcl ho λyp hab ho=>?_;refine gct ho (λhw ho=>?_) λhw ho=>?_
                   . exact we ho
                   . obtain ⟨tc,hy,ho⟩:=bnd ho;refine gl2 hy ho [1,6,7,98,99,100,101,102,103,104,105,108,109,110,111,114,115,116,117,120,121,122,123] [] [] (λs g=>([(8,vI s)],[])) (λb=>(.exit 4,λg=>([],[]))) (λb=>(.ret,λg=>([(2,vB b)],[]))) [] (λsd gn _ ho=>?_) (λbg ho gf=>?_) λbh ho gf=>?_
                     . exact we ho
                     . refine gcl ho λya hac ho=>?_;intro va;show zr ..;obtain ⟨td,hz,ho⟩:=bnd ho;refine gl2 hz ho [1,6,9,98,99,100,101,102,103,104,105,108,109,110,111,114,115,116,117,120,121,122,123] [] [0] (λs g=>([(10,vI s)],[(va,.row zco ya)])) (λb=>(.exit 6,λg=>([],[]))) (λb=>(.ret,λg=>([(2,vB b)],[]))) [] (λse gp _ ho=>?_) (λbi ho gg=>?_) λbj ho gg=>?_
                       . refine gct ho (λhA ho=>?_) λhA ho=>?_
                         . refine run 4 ?_;refine zar [4,8] (by kernel_rfl) ?_;obtain ⟨xe,had,xf,hae,ho⟩:=zhr ho;refine gcl ho λyq haf ho=>?_;refine gcl ho λyr hag ho=>?_;refine gct ho (λhB ho=>?_) λhB ho=>?_
                           . exact we ho
                           . exact lv [] [0] ho
                         . exact lv [] [] ho
                       . exact we ho
                       . cases ho; exact id (lf [] [])
                     . cases ho; exact id (lf [] [])
         . exact lv [] [] ho
       . refine gnr zP ?_;obtain ⟨te,hC,ho⟩:=bnd ho;refine gl2 hC ho [1] [] [0] (λs g=>([(11,.raw (gh g 0)),(12,vI s.2)],[((gh g 0),.row zP s.1)])) (λb=>(.exit 8,λg=>([(11,.raw (gh g 0))],[((gh g 0),.row zP b)]))) (λb=>(.ret,λg=>([(2,vB b)],[]))) [.nilslice] (λsf gb _ ho=>?_) (λbk ho gi=>?_) λbl ho gi=>?_
         . refine gct ho (λhD ho=>?_) λhD ho=>?_
           . obtain ⟨tf,hE,ho⟩:=bnd ho;refine gl2 hE ho [1,12] [] [0] (λs g=>([(11,.raw (gh g 0)),(13,vI s.2)],[((gh g 0),.row zP s.1)])) (λb=>(.exit 10,λg=>([(11,.raw (gh g 0))],[((gh g 0),.row zP b)]))) (λb=>(.ret,λg=>([(2,vB b)],[]))) [(gh gb 0)] (λsa ga _ ho=>?_) (λbm ho gc=>?_) λbn ho gc=>?_
             . obtain ⟨xg,hah,ho⟩:=bnd ho;refine gct ho (λhF ho=>?_) λhF ho=>?_
               . obtain ⟨xh,hai,xd,haj,ho⟩:=zhr ho;refine gal λbo=>?_;refine gfz 1 zP xd 0 [14] ?_;refine gcl ho λys hak ho=>?_;refine wbr ho (λhG ho=>?_) λhG ho=>?_
                 . refine gk ?_;exact we ho
                 . refine gcl ho λyt hal ho=>?_;refine gct ho (λhH ho=>?_) λhH ho=>?_
                   . exact we ho
                   . obtain ⟨tg,hI,ho⟩:=bnd ho;refine gl2 hI ho [1,11,12,13,14,196,197,198,199,200] [] [0] (λs g=>([(15,vI s)],[((gh ga 0),.row zP sa.1)])) (λb=>(.exit 12,λg=>([],[((gh ga 0),.row zP sa.1)]))) (λb=>(.ret,λg=>([(2,vB b)],[]))) [] (λsg gq _ ho=>?_) (λbp ho gj=>?_) λbq ho gj=>?_
                     . refine gct ho (λhJ ho=>?_) λhJ ho=>?_
                       . refine run 4 ?_;refine zar [3] (by kernel_rfl) ?_;obtain ⟨xi,ham,ho⟩:=bnd ho;refine gct ho (λhK ho=>?_) λhK ho=>?_
                         . exact we ho
                         . exact lv [] [0] ho
                       . exact lv [] [0] ho
                     . obtain ⟨xj,han,ho⟩:=bnd ho;refine gap λvb=>?_;exact lv [vb] [0] ho
                     . cases ho; exact id (lf [] [])
               . exact lv [(gh ga 0)] [0] ho
             . exact lv [(gh gc 0)] [0] ho
             . cases ho; exact id (lf [] [])
           . exact lv [(gh gb 0)] [0] ho
         . exact we ho
         . exact rv ho
       . exact rv ho
     . exact rv ho⟩
instance i52 {p_0 rail_1}:FI ktab 52 (zaw p_0 rail_1) [.val zaP p_0,vI rail_1] (λout=>[wI out]):=⟨λout ho=>by
 delta zaw at ho;refine fn λ_ _=>?_;refine gcl ho λy1 hy1 ho=>?_;intro v2;show zr ..;obtain ⟨ta,ha,ho⟩:=bnd ho;refine glp ha [5] [] [0] (λs g=>([(6,vI s.1),(7,vI s.2)],[(v2,.row zco y1)])) (λb=>(.exit 0,λg=>([(6,vI b)],[]))) [] (λsa ga _ ho=>?_) λgb=>?_
 . refine gct ho (λhc ho=>?_) λhc ho=>?_
   . refine run 3 ?_;refine zar [5,9] (by kernel_rfl) ?_;obtain ⟨xa,hd,xb,he,ho⟩:=zhr ho;refine gcl ho λya hf ho=>?_;exact lv [] [0] ho
   . exact lv [] [] ho
 . exact we ho⟩
instance i15 {p_0}:FI ktab 15 (zd1 p_0) [.val zaP p_0] (λout=>[wB out]):=⟨λout ho=>by
 delta zd1 at ho;refine fn λ_ _=>?_;obtain ⟨c4,hc4,ho⟩:=bnd ho;refine run 7 ?_;refine gcx c4 [1] [] (λt=>(.normal,λ_=>([(16,vB t)],[]))) ?_ λ_=>?_
 . exact we hc4
 . refine gct ho (λhq6 ho=>?_) λhq6 ho=>?_
   . exact we ho
   . obtain ⟨ta,ha,ho⟩:=bnd ho;refine gl2 ha ho [1] [] [] (λs g=>([(3,vI s)],[])) (λb=>(.exit 0,λg=>([],[]))) (λb=>(.ret,λg=>([(2,vB b)],[]))) [] (λsa gc _ ho=>?_) (λba ho ga=>?_) λbb ho ga=>?_
     . exact we ho
     . obtain ⟨tb,hc,ho⟩:=bnd ho;refine gl2 hc ho [1,4] [] [] (λs g=>([(5,vI s)],[])) (λb=>(.exit 2,λg=>([],[]))) (λb=>(.ret,λg=>([(2,vB b)],[]))) [] (λsb gd _ ho=>?_) (λbc ho gb=>?_) λbd ho gb=>?_
       . exact we ho
       . refine gcl ho λya hf ho=>?_;refine gct ho (λhd ho=>?_) λhd ho=>?_
         . obtain ⟨tc,he,ho⟩:=bnd ho;refine glp he [1] [] [] (λs g=>([(4,vI s.1),(6,vI s.2)],[])) (λb=>(.exit 4,λg=>([(4,vI b)],[]))) [] (λsc ge _ ho=>?_) λgf=>?_
           . exact we ho
           . exact we ho
         . exact we ho
       . exact rv ho
     . exact rv ho⟩
instance i16 {l_0}:FI ktab 16 (zcP l_0) [.val zav l_0] (λout=>[wB out]):=⟨λout ho=>by
 delta zcP at ho;refine fn λ_ _=>?_;obtain ⟨ca,ha,ho⟩:=bnd ho;refine run 6 ?_;refine gcx ca [] [] (λt=>(.normal,λ_=>([(2,vB t)],[]))) ?_ λ_=>?_
 . exact we ha
 . exact rv ho⟩
instance i65 {n_0 low_1 high_2}:FI ktab 65 (zbu n_0 low_1 high_2) [vI n_0,vI low_1,vI high_2] (λout=>[wB out]):=⟨λout ho=>by
 delta zbu at ho;refine fn λ_ _=>?_;obtain ⟨c4,hc4,ho⟩:=bnd ho;refine run 5 ?_;refine gcx c4 [] [] (λt=>(.normal,λ_=>([(6,vB t)],[]))) ?_ λ_=>?_
 . exact we hc4
 . exact rv ho⟩
instance i67 {l_0 home_1}:FI ktab 67 (zcr l_0 home_1) [.val zav l_0,vB home_1] (λout=>[.val zcx out]):=fw
instance i132 {p_0 m_1}:FI ktab 132 (zeH p_0 m_1) [.val zaP p_0,.val zW m_1] (λout=>[wB out]):=fw
instance i156 {m_0}:FI ktab 156 (zfq m_0) [.val zW m_0] (λout=>[.val zP out]):=fw
instance i157 {n_0 e_1}:FI ktab 157 (zdk n_0 e_1) [.val zbW n_0,.val zP e_1] (λout=>[wI out]):=⟨λout ho=>by
 delta zdk at ho;refine fn λ_ _=>?_;obtain ⟨ta,ha,ho⟩:=bnd ho;refine gl2 ha ho [2,3] [] [] (λs g=>([(5,vI s)],[])) (λb=>(.exit 0,λg=>([],[]))) (λb=>(.ret,λg=>([(4,vI b)],[]))) [] (λs5 g6 _ ho=>?_) (λba ho ga=>?_) λbb ho ga=>?_
 . exact we ho
 . exact we ho
 . exact rv ho⟩
instance i158 {m_0}:FI ktab 158 (zha m_0) [.val zW m_0] (λout=>[.val zP out]):=fw
instance i159 {n_0 a_1 b_2}:FI ktab 159 (zeI n_0 a_1 b_2) [.val zbW n_0,vI a_1,vI b_2] (λout=>[wB out]):=⟨λout ho=>by
 delta zeI at ho;refine fn λ_ _=>?_;refine gct ho (λhq1 ho=>?_) λhq1 ho=>?_
 . exact we ho
 . refine gct ho (λhq2 ho=>?_) λhq2 ho=>?_
   . obtain ⟨c5,hc5,ho⟩:=bnd ho;refine run 1 ?_;refine gcx c5 [] [] (λt=>(.normal,λ_=>([(6,vB t)],[]))) ?_ λ_=>?_
     . exact we hc5
     . exact rv ho
   . refine gct ho (λhq8 ho=>?_) λhq8 ho=>?_
     . obtain ⟨ca,ha,ho⟩:=bnd ho;refine run 1 ?_;refine gcx ca [] [] (λt=>(.normal,λ_=>([(6,vB t)],[]))) ?_ λ_=>?_
       . exact we ha
       . exact rv ho
     . refine gct ho (λhc ho=>?_) λhc ho=>?_
       . obtain ⟨cc,hd,ho⟩:=bnd ho;refine run 1 ?_;refine gcx cc [] [] (λt=>(.normal,λ_=>([(6,vB t)],[]))) ?_ λ_=>?_
         . exact we hd
         . exact rv ho
       . refine gct ho (λhe ho=>?_) λhe ho=>?_
         . obtain ⟨cd,hf,ho⟩:=bnd ho;refine run 1 ?_;refine gcx cd [] [] (λt=>(.normal,λ_=>([(6,vB t)],[]))) ?_ λ_=>?_
           . exact we hf
           . exact rv ho
         . exact we ho⟩
instance i133 {p_0 m_1 n_2}:FI ktab 133 (zcz p_0 m_1 n_2) [.val zaP p_0,.val zW m_1,.val zW n_2] (λout=>[wB out]):=⟨λout ho=>by
 delta zcz at ho;refine fn λ_ _=>?_;refine gcl ho λy3 hy3 ho=>?_;refine gcl ho λy4 hy4 ho=>?_;obtain ⟨x5,hx5,ho⟩:=bnd ho;refine gal λb6=>?_;refine gfz 1 zbW x5 0 [8] ?_;refine gcl ho λya hc ho=>?_;refine gcl ho λyb hd ho=>?_;refine gcl ho λyc he ho=>?_;refine gcl ho λyd hf ho=>?_;obtain ⟨ca,ha,ho⟩:=bnd ho;refine run 4 ?_;refine gcx ca [] [] (λt=>(.normal,λ_=>([(6,vB t)],[]))) ?_ λ_=>?_
 . exact we ha
 . exact rv ho⟩
instance i102 {p_0 l_1}:FI ktab 102 (zep p_0 l_1) [.val zaP p_0,.val (zb zW) l_1] (λout=>[wB out]):=⟨λout ho=>by
 delta zep at ho;refine fn λ_ _=>?_;obtain ⟨ta,ha,ho⟩:=bnd ho;refine gl2 ha ho [1,2] [] [] (λs g=>([(5,vI s)],[])) (λb=>(.exit 0,λg=>([],[]))) (λb=>(.ret,λg=>([(4,vB b)],[]))) [] (λsa gb _ ho=>?_) (λba ho ga=>?_) λbb ho ga=>?_
 . refine gct ho (λhc ho=>?_) λhc ho=>?_
   . obtain ⟨xa,hf,ho⟩:=bnd ho;refine gcl ho λya hg ho=>?_;refine wbr ho (λhd ho=>?_) λhd ho=>?_
     . refine gk ?_;exact we ho
     . refine wbr ho (λhe ho=>?_) λhe ho=>?_
       . refine run 5 ?_;exact we ho
       . refine gk ?_;exact we ho
   . exact lv [] [] ho
 . exact we ho
 . exact rv ho⟩
instance i103 {p_0 l_1}:FI ktab 103 (zb1 p_0 l_1) [.val zaP p_0,.val (zb zW) l_1] (λout=>[wI out]):=⟨λout ho=>by
 delta zb1 at ho;refine fn λ_ _=>?_;obtain ⟨ta,ha,ho⟩:=bnd ho;refine glp ha [1,2] [] [] (λs g=>([(5,vI s.1),(6,vI s.2)],[])) (λb=>(.exit 0,λg=>([(5,vI b)],[]))) [] (λs6 g7 _ ho=>?_) λga=>?_
 . exact we ho
 . exact we ho⟩
instance i161 {x_0 low_1 high_2}:FI ktab 161 (zba x_0 low_1 high_2) [vI x_0,vI low_1,vI high_2] (λout=>[wB out]):=⟨λout ho=>by
 delta zba at ho;refine fn λ_ _=>?_;obtain ⟨c4,hc4,ho⟩:=bnd ho;refine run 5 ?_;refine gcx c4 [] [] (λt=>(.normal,λ_=>([(6,vB t)],[]))) ?_ λ_=>?_
 . exact we hc4
 . exact rv ho⟩
instance i160 {t_0}:FI ktab 160 (zd5 t_0) [.val zbG t_0] (λout=>[wB out]):=⟨λout ho=>by
 delta zd5 at ho;refine fn λ_ _=>?_;obtain ⟨ca,ha,ho⟩:=bnd ho;refine run 7 ?_;refine gcx ca [1] [] (λt=>(.normal,λ_=>([(62,vB t)],[]))) ?_ λ_=>?_
 . exact we ha
 . refine gct ho (λhc ho=>?_) λhc ho=>?_
   . exact we ho
   . obtain ⟨ta,hd,ho⟩:=bnd ho;refine gl2 hd ho [1] [] [] (λs g=>([(3,vI s)],[])) (λb=>(.exit 0,λg=>([],[]))) (λb=>(.ret,λg=>([(2,vB b)],[]))) [] (λsa gb _ ho=>?_) (λba ho ga=>?_) λbb ho ga=>?_
     . exact we ho
     . exact we ho
     . exact rv ho⟩
instance i134 {p_0 way_1 t_2 state_3 stops_4}:FI ktab 134 (zd6 p_0 way_1 t_2 state_3 stops_4) [.val zaP p_0,.val (zb zW) way_1,.val zbG t_2,vI state_3,.val (zb (zj .i64)) stops_4] (λout=>[wB out]):=⟨λout ho=>by
 delta zd6 at ho;refine fn λ_ _=>?_;obtain ⟨ca,ha,ho⟩:=bnd ho;refine run 8 ?_;refine gcx ca [1,4,5] [] (λt=>(.normal,λ_=>([(48,vB t)],[]))) ?_ λ_=>?_
 . exact we ha
 . refine gct ho (λhc ho=>?_) λhc ho=>?_
   . exact we ho
   . obtain ⟨ta,hd,ho⟩:=bnd ho;refine gl2 hd ho [1,4,5] [] [] (λs g=>([(11,vI s)],[])) (λb=>(.exit 0,λg=>([],[]))) (λb=>(.ret,λg=>([(10,vB b)],[]))) [] (λsa gb _ ho=>?_) (λba ho ga=>?_) λbb ho ga=>?_
     . exact we ho
     . exact we ho
     . exact rv ho⟩
instance i162 {t_0 x_1}:FI ktab 162 (zL t_0 x_1) [.val zbG t_0,.val zu x_1] (λout=>[wI out]):=fw
instance i164 {r_0 place_1}:FI ktab 164 (zaT r_0 place_1) [.val zac r_0,vI place_1] (λout=>[wI out]):=⟨λout ho=>by
 delta zaT at ho;refine fn λ_ _=>?_;obtain ⟨ta,ha,ho⟩:=bnd ho;refine gl2 ha ho [1,2] [] [] (λs g=>([(5,vI s.1),(6,vI s.2)],[])) (λb=>(.exit 0,λg=>([],[]))) (λb=>(.ret,λg=>([(4,vI b)],[]))) [] (λsa gb _ ho=>?_) (λba ho ga=>?_) λbb ho ga=>?_
 . refine gct ho (λhc ho=>?_) λhc ho=>?_
   . obtain ⟨xa,he,ho⟩:=bnd ho;refine gcl ho λya hf ho=>?_;refine wbr ho (λhd ho=>?_) λhd ho=>?_
     . refine gk ?_;exact we ho
     . refine run 9 ?_;exact we ho
   . exact lv [] [] ho
 . exact we ho
 . exact rv ho⟩
instance i179 {t_0 speed_1 demand_2 slope_3 state_4}:FI ktab 179 (zdz t_0 speed_1 demand_2 slope_3 state_4) [.val zbG t_0,vI speed_1,vI demand_2,vI slope_3,vI state_4] (λout=>[wI out.1,wI out.2.1,wI out.2.2.1,wI out.2.2.2]):=fw
instance i166 {t_0 x_1 demand_2 slope_3 state_4}:FI ktab 166 (zay t_0 x_1 demand_2 slope_3 state_4) [.val zbG t_0,.val zu x_1,vI demand_2,vI slope_3,vI state_4] (λout=>[.val zu out.1,.val zx out.2.1,wB out.2.2]):=⟨λout ho=>by
 delta zay at ho;refine fn λ_ _=>?_;refine gal λb1=>?_;refine gal λb2=>?_;obtain ⟨x5,hx5,ho⟩:=bnd ho;refine gcl ho λy6 hy6 ho=>?_;refine gal λb7=>?_;obtain ⟨ca,ha,ho⟩:=bnd ho;refine run 3 ?_;refine gcx ca [5,6,10,11,13,14,15,16,17,18,19] [0,1,2] (λt=>(.normal,λ_=>([(57,vB t)],[]))) ?_ λ_=>?_
 . have ho:=ha;refine wbr ho (λhc ho=>?_) λhc ho=>?_
   . exact lv [] [0,1,2] ho
   . refine wbr ho (λhd ho=>?_) λhd ho=>?_
     . exact lv [] [0,1,2] ho
     . exact lv [] [0,1,2] ho
 . refine gct ho (λhe ho=>?_) λhe ho=>?_
   . refine run 14 ?_;refine zar [6,1000010,1000011,1000019] (by kernel_rfl) ?_ (hdi:=rdists rfl (rowns rfl) (.c (.o (j:=2) rfl rfl) (.c (.o (j:=1) rfl rfl) (.c (.o (j:=0) rfl rfl) .n))) rfl);refine glb ((0,0,0,0,0,(w64 (x_1.1*x_1.1)),()):zV) 0 ?_;exact we ho
   . refine run 25 ?_;refine zar [6,1000010,1000011,1000019] (by kernel_rfl) ?_ (hdi:=rdists rfl (rowns rfl) (.c (.o (j:=2) rfl rfl) (.c (.o (j:=1) rfl rfl) (.c (.o (j:=0) rfl rfl) .n))) rfl);refine glb ((((w64 ((w64 (200*y6.1))*(w64 (x_1.1+(w64 (100*(w64 ((w64 ((w64 (y6.1-y6.2.1))-y6.2.2.1))-y6.2.2.2)))))))),(w64 ((w64 (200*y6.2.1))*(w64 (x_1.1+(w64 (100*(w64 ((w64 ((w64 (y6.1-y6.2.1))-y6.2.2.1))-y6.2.2.2)))))))),(w64 ((w64 (200*y6.2.2.1))*(w64 (x_1.1+(w64 (100*(w64 ((w64 ((w64 (y6.1-y6.2.1))-y6.2.2.1))-y6.2.2.2)))))))),(w64 ((w64 (200*y6.2.2.2))*(w64 (x_1.1+(w64 (100*(w64 ((w64 ((w64 (y6.1-y6.2.1))-y6.2.2.1))-y6.2.2.2)))))))),(w64 ((w64 (10000*(w64 ((w64 ((w64 (y6.1-y6.2.1))-y6.2.2.1))-y6.2.2.2))))*(w64 ((w64 ((w64 (y6.1-y6.2.1))-y6.2.2.1))-y6.2.2.2)))),0,()):zV):zV) 0 ?_;exact we ho⟩
instance i207 {p_0 l_1 front_2 length_3}:FI ktab 207 (zdA p_0 l_1 front_2 length_3) [.val zaP p_0,.val (zb zW) l_1,vI front_2,vI length_3] (λout=>[.row zgI out]):=⟨λout ho=>by
 delta zdA at ho;refine fn λ_ _=>?_;refine gnr zgI ?_;refine gnr zgI ?_;obtain ⟨ta,ha,ho⟩:=bnd ho;refine glp ha [1,2,3,4] [] [0] (λs g=>([(9,.raw (gh g 0)),(10,vI s.2.1),(11,vI s.2.2)],[((gh g 0),.row zgI s.1)])) (λb=>(.exit 0,λg=>([(9,.raw (gh g 0))],[((gh g 0),.row zgI b)]))) [.nilslice] (λsa ga _ ho=>?_) λgb=>?_
 . refine gct ho (λhc ho=>?_) λhc ho=>?_
   . obtain ⟨xa,hf,ho⟩:=bnd ho;refine gcl ho λya hg ho=>?_;refine gct ho (λhd ho=>?_) λhd ho=>?_
     . exact lv [(gh ga 0)] [0] ho
     . obtain ⟨xb,hh,ho⟩:=bnd ho;refine gct ho (λhe ho=>?_) λhe ho=>?_
       . obtain ⟨xd,hi,xe,hj,ho⟩:=zhr ho;refine gap λva=>?_;exact lv [va] [0] ho
       . obtain ⟨xf,hk,xg,hl,ho⟩:=zhr ho;refine gap λvb=>?_;exact lv [vb] [0] ho
   . exact lv [(gh ga 0)] [0] ho
 . exact we ho⟩
instance i190 {p_0 way_1 t_2 place_3}:FI ktab 190 (zdl p_0 way_1 t_2 place_3) [.val zaP p_0,.val (zb zW) way_1,.val zbG t_2,vI place_3] (λout=>[wI out]):=⟨λout ho=>by
 delta zdl at ho;refine fn λ_ _=>?_;refine gcl ho λy1 hy1 ho=>?_;intro v2;show zr ..;obtain ⟨ta,ha,ho⟩:=bnd ho;refine glp ha [4,9] [] [0] (λs g=>([(10,vI s.1),(11,vI s.2)],[(v2,.row zgI y1)])) (λb=>(.exit 0,λg=>([(10,vI b)],[]))) [] (λs8 g9 _ ho=>?_) λga=>?_
 . refine gct ho (λhc ho=>?_) λhc ho=>?_
   . refine run 3 ?_;refine zar [7] (by kernel_rfl) ?_;obtain ⟨xa,hd,ho⟩:=bnd ho;refine run 7 ?_;refine zot 0 (λ_ h=>by cases h<;>rfl) iu' zqB (zfm hd).2.2.2 (.n rfl) rfl rfl (.t rfl) rfl ?_;obtain ⟨xb,he,ho⟩:=bnd ho;exact lv [] [0] ho
   . exact lv [] [] ho
 . exact we ho⟩
instance i178 {r_0 x_1}:FI ktab 178 (zdP r_0 x_1) [.val zac r_0,.val zu x_1] (λout=>[wB out]):=⟨λout ho=>by
 delta zdP at ho;refine fn λ_ _=>?_;refine run 3 ?_;refine xbo λb1=>?_;obtain ⟨ta,ha,ho⟩:=bnd ho;refine glp ha [2,3] [] [0] (λs g=>([(5,vI s.1)],[(.ptr b1 0,.box [vI s.2.1,vI s.2.2])])) (λb=>(.ret,λg=>([(4,vB b.1)],[]))) [] (λsa ga _ ho=>?_) λgb=>?_
 . refine run 4 ?_;refine zar [2,9,22] (by kernel_rfl) ?_;refine glb (sa.2.1,sa.2.2,()) 0 ?_;refine gcl ho λya hh ho=>?_;refine wbr ho (λhc ho=>?_) λhc ho=>?_
   . refine gk ?_;exact we ho
   . obtain ⟨xa,hi,ho⟩:=bnd ho;refine glb (sa.2.1,sa.2.2,()) 0 ?_;refine gcl ho λyb hj ho=>?_;refine gcl ho λyc hk ho=>?_;refine gct ho (λhd ho=>?_) λhd ho=>?_
     . exact we ho
     . refine gct ho (λhe ho=>?_) λhe ho=>?_
       . exact we ho
       . refine gct ho (λhf ho=>?_) λhf ho=>?_
         . exact we ho
         . refine run 6 ?_;refine zar [2,6] (by kernel_rfl) ?_;refine glb (sa.2.1,sa.2.2,()) 0 ?_;refine glb (sa.2.1,sa.2.2,()) 0 ?_;refine gcl ho λyd hl ho=>?_;refine gcl ho λye hm ho=>?_;refine gcl ho λyf hn ho=>?_;refine gct ho (λhg ho=>?_) λhg ho=>?_
           . exact we ho
           . exact lv [] [0] ho
 . exact rv ho⟩
instance i163 {r_0 x_1}:FI ktab 163 (zci r_0 x_1) [.val zac r_0,.val zu x_1] (λout=>[wI out.1,wB out.2]):=⟨λout ho=>by
 delta zci at ho;refine fn λ_ _=>?_;obtain ⟨ta,ha,ho⟩:=bnd ho;refine gl2 ha ho [2,3] [] [] (λs g=>([(6,vI s)],[])) (λb=>(.exit 0,λg=>([],[]))) (λb=>(.ret,λg=>([(4,vI b.1),(5,vB b.2)],[]))) [] (λsa gb _ ho=>?_) (λba ho ga=>?_) λbb ho ga=>?_
 . refine gct ho (λhc ho=>?_) λhc ho=>?_
   . refine gcl ho λyb he ho=>?_;refine gcl ho λyc hf ho=>?_;refine gcl ho λya hg ho=>?_;refine gal λbc=>?_;refine gal λbd=>?_;refine gfz 1 zu ya.1 1 [7] ?_;refine gfz 1 zx ya.2.1 0 [8] ?_;refine wbr ho (λhd ho=>?_) λhd ho=>?_
     . exact we ho
     . refine gk ?_;exact we ho
   . exact lv [] [] ho
 . exact we ho
 . exact rv ho⟩
end Go.Ai.TabYtppebpagcocogaaGreat