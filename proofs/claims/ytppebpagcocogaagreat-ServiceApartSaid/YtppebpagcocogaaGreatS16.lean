/- Written by program: walks through functions. -/
import Derived.Test.YtppebpagcocogaaGreatS11
set_option linter.unusedSimpArgs false
set_option linter.unusedVariables false
set_option linter.unusedSectionVars false
namespace Go.Ai.TabYtppebpagcocogaaGreat
open Go Go.Ai Go.Ai.Sx Go.Proofs
attribute [local irreducible] zq
set_option maxRecDepth 100000
set_option maxHeartbeats 4000000
instance i59 {n_0 low_1 high_2}:FI ktab 59 (zad n_0 low_1 high_2) [vI n_0,vI low_1,vI high_2] (fun out=>[wB out]):=⟨fun out ho=>by
 delta zad at ho;refine fn fun _ _=>?_;obtain ⟨c2,hc2,ho⟩:=bnd ho;refine run 5 ?_;refine gcx c2 [] [] (fun t=>(.normal,fun _=>([(6,vB t)],[]))) ?_ fun _=>?_
 ·exact we hc2
 ·exact rv ho⟩
instance i60 {s_0}:FI ktab 60 (zbs s_0) [.val zcE s_0] (fun out=>[wB out]):=⟨fun out ho=>by
 delta zbs at ho;refine fn fun _ _=>?_;obtain ⟨c4,hc4,ho⟩:=bnd ho;refine run 6 ?_;refine gcx c4 [] [] (fun t=>(.normal,fun _=>([(2,vB t)],[]))) ?_ fun _=>?_
 ·exact we hc4
 ·exact rv ho⟩
instance i61 {k_0}:FI ktab 61 (zaI k_0) [vI k_0] (fun out=>[wI out]):=⟨fun out ho=>by
 delta zaI at ho;refine fn fun _ _=>?_;refine gct ho (fun hq1 ho=>?_) fun hq1 ho=>?_
 ·exact we ho
 ·refine gct ho (fun hq2 ho=>?_) fun hq2 ho=>?_
  ·exact we ho
  ·refine gct ho (fun hq3 ho=>?_) fun hq3 ho=>?_
   ·exact we ho
   ·refine gct ho (fun hq4 ho=>?_) fun hq4 ho=>?_
    ·refine gct ho (fun hq5 ho=>?_) fun hq5 ho=>?_
     ·exact we ho
     ·exact Bool.noConfusion (hq4.symm.trans hq5)
    ·refine gct ho (fun hq6 ho=>?_) fun hq6 ho=>?_
     ·refine gct ho (fun hq7 ho=>?_) fun hq7 ho=>?_
      ·exact we ho
      ·exact Bool.noConfusion (hq6.symm.trans hq7)
     ·exact we ho⟩
instance i62 {p_0 rail_1}:FI ktab 62 (zdi p_0 rail_1) [.val zaf p_0,vI rail_1] (fun out=>[.row zcE out]):=⟨fun out ho=>by
 delta zdi at ho;refine fn fun _ _=>?_;refine gnr zcE ?_;obtain ⟨x1,hx1,ho⟩:=bnd ho;refine gal fun b2=>?_;refine gfz 1 zd4 x1 0 [5] ?_;obtain ⟨x3,hx3,ho⟩:=bnd ho;refine run 10 ?_;refine zwf (R:=zcE) is' iy' (.n rfl) rfl rfl (.c (.t rfl) .n) rfl (by decide) ?_;intro v4;obtain ⟨x5,hx5,ho⟩:=bnd ho;refine gap fun v6=>?_;obtain ⟨x7,hx7,x8,hx8,ho⟩:=zfX ho;refine gap fun v9=>?_;exact we ho⟩
instance i101 {n_0}:FI ktab 101 (zeP n_0) [vI n_0] (fun out=>[wI out]):=⟨fun out ho=>by
 delta zeP at ho;refine fn fun _ _=>?_;obtain ⟨t9,ht9,ho⟩:=bnd ho;refine glp ht9 [0] [] [] (fun s g=>([(3,vI s.1),(4,vI s.2)],[])) (fun b=>(.exit 0,fun g=>([(3,vI b)],[]))) [] (fun s4 g5 _ ho=>?_) fun ga=>?_
 ·exact we ho
 ·exact we ho⟩
instance i63 {a_0 b_1}:FI ktab 63 (zdj a_0 b_1) [.val zcE a_0,.val zcE b_1] (fun out=>[wI out]):=fw
instance i64 {p_0 e_1}:FI ktab 64 (zfk p_0 e_1) [.val zaf p_0,.val zU e_1] (fun out=>[wI out]):=fw
instance i21 {p_0}:FI ktab 21 (zc1 p_0) [.val zaf p_0] (fun out=>[wB out]):=⟨fun out ho=>by
 delta zc1 at ho;refine fn fun _ _=>?_;obtain ⟨c4,hc4,ho⟩:=bnd ho;refine run 7 ?_;refine gcx c4 [1] [] (fun t=>(.normal,fun _=>([(27,vB t)],[]))) ?_ fun _=>?_
 ·exact we hc4
 ·refine gct ho (fun hq8 ho=>?_) fun hq8 ho=>?_
  ·exact we ho
  ·obtain ⟨ta,ha,ho⟩:=bnd ho;refine gl2 ha ho [1] [] [] (fun s g=>([(3,vI s)],[])) (fun b=>(.exit 0,fun g=>([],[]))) (fun b=>(.ret,fun g=>([(2,vB b)],[]))) [] (fun sb gl _ ho=>?_) (fun ba ho gd=>?_) fun bb ho gd=>?_
   ·refine gct ho (fun hc ho=>?_) fun hc ho=>?_
    ·obtain ⟨xa,hL,ho⟩:=bnd ho;refine gal fun bc=>?_;refine gfz 1 zb7 xa 0 [4] ?_;refine wbr ho (fun hd ho=>?_) fun hd ho=>?_
     ·refine gk ?_;refine gcl ho fun yb hM ho=>?_;refine gcl ho fun yc hN ho=>?_;refine wbr ho (fun he ho=>?_) fun he ho=>?_
      ·refine gk ?_;exact we ho
      ·refine gcl ho fun yd hO ho=>?_;refine wbr ho (fun hf ho=>?_) fun hf ho=>?_
       ·refine gk ?_;exact we ho
       ·refine gcl ho fun ye hP ho=>?_;refine wbr ho (fun hg ho=>?_) fun hg ho=>?_
        ·refine gk ?_;exact we ho
        ·refine run 3 ?_;exact we ho
     ·refine gct ho (fun hh ho=>?_) fun hh ho=>?_
      ·refine gcl ho fun yf hQ ho=>?_;refine gcl ho fun yg hR ho=>?_;refine wbr ho (fun hi ho=>?_) fun hi ho=>?_
       ·refine gk ?_;exact we ho
       ·refine gcl ho fun yh hS ho=>?_;refine wbr ho (fun hj ho=>?_) fun hj ho=>?_
        ·refine gk ?_;exact we ho
        ·refine gcl ho fun yi hT ho=>?_;refine wbr ho (fun hk ho=>?_) fun hk ho=>?_
         ·refine gk ?_;exact we ho
         ·exact we ho
      ·refine gcl ho fun yj hU ho=>?_;refine wbr ho (fun hl ho=>?_) fun hl ho=>?_
       ·refine gk ?_;exact we ho
       ·refine gcl ho fun yk hV ho=>?_;refine wbr ho (fun hm ho=>?_) fun hm ho=>?_
        ·refine gk ?_;exact we ho
        ·refine gcl ho fun yl hW ho=>?_;refine wbr ho (fun hn ho=>?_) fun hn ho=>?_
         ·refine gk ?_;exact we ho
         ·exact we ho
    ·exact lv [] [] ho
   ·obtain ⟨tb,hp,ho⟩:=bnd ho;refine gl2 hp ho [1] [] [] (fun s g=>([(6,vI s)],[])) (fun b=>(.exit 2,fun g=>([],[]))) (fun b=>(.ret,fun g=>([(2,vB b)],[]))) [] (fun sc gm _ ho=>?_) (fun bd ho ge=>?_) fun be ho ge=>?_
    ·refine gct ho (fun hr ho=>?_) fun hr ho=>?_
     ·obtain ⟨xb,hX,ho⟩:=bnd ho;refine gal fun bf=>?_;refine gfz 1 zd4 xb 0 [7] ?_;refine gcl ho fun ym hY ho=>?_;refine wbr ho (fun hs ho=>?_) fun hs ho=>?_
      ·refine gk ?_;exact we ho
      ·refine gcl ho fun yn hZ ho=>?_;refine wbr ho (fun ht ho=>?_) fun ht ho=>?_
       ·refine gk ?_;exact we ho
       ·refine wbr ho (fun hu ho=>?_) fun hu ho=>?_
        ·refine gk ?_;exact we ho
        ·refine gcl ho fun yo haa ho=>?_;refine wbr ho (fun hv ho=>?_) fun hv ho=>?_
         ·refine gk ?_;exact we ho
         ·refine gcl ho fun yp hab ho=>?_;refine gct ho (fun hw ho=>?_) fun hw ho=>?_
          ·exact we ho
          ·obtain ⟨tc,hy,ho⟩:=bnd ho;refine gl2 hy ho [1,6,7,98,99,100,101,102,103,104,105,108,109,110,111,114,115,116,117,120,121,122,123] [] [] (fun s g=>([(8,vI s)],[])) (fun b=>(.exit 4,fun g=>([],[]))) (fun b=>(.ret,fun g=>([(2,vB b)],[]))) [] (fun sd gn _ ho=>?_) (fun bg ho gf=>?_) fun bh ho gf=>?_
           ·exact we ho
           ·refine gcl ho fun ya hac ho=>?_;intro va;show zq ..;obtain ⟨td,hz,ho⟩:=bnd ho;refine gl2 hz ho [1,6,9,98,99,100,101,102,103,104,105,108,109,110,111,114,115,116,117,120,121,122,123] [] [0] (fun s g=>([(10,vI s)],[(va,.row zcE ya)])) (fun b=>(.exit 6,fun g=>([],[]))) (fun b=>(.ret,fun g=>([(2,vB b)],[]))) [] (fun se gp _ ho=>?_) (fun bi ho gg=>?_) fun bj ho gg=>?_
            ·refine gct ho (fun hA ho=>?_) fun hA ho=>?_
             ·refine run 4 ?_;refine zaN [4,8] (by kernel_rfl) ?_;obtain ⟨xe,had,xf,hae,ho⟩:=zfX ho;refine gcl ho fun yq haf ho=>?_;refine gcl ho fun yr hag ho=>?_;refine gct ho (fun hB ho=>?_) fun hB ho=>?_
              ·exact we ho
              ·exact lv [] [0] ho
             ·exact lv [] [] ho
            ·exact we ho
            ·cases ho; exact id (lf [] [])
           ·cases ho; exact id (lf [] [])
     ·exact lv [] [] ho
    ·refine gnr zU ?_;obtain ⟨te,hC,ho⟩:=bnd ho;refine gl2 hC ho [1] [] [0] (fun s g=>([(11,.raw (gh g 0)),(12,vI s.2)],[((gh g 0),.row zU s.1)])) (fun b=>(.exit 8,fun g=>([(11,.raw (gh g 0))],[((gh g 0),.row zU b)]))) (fun b=>(.ret,fun g=>([(2,vB b)],[]))) [.nilslice] (fun sf gb _ ho=>?_) (fun bk ho gi=>?_) fun bl ho gi=>?_
     ·refine gct ho (fun hD ho=>?_) fun hD ho=>?_
      ·obtain ⟨tf,hE,ho⟩:=bnd ho;refine gl2 hE ho [1,12] [] [0] (fun s g=>([(11,.raw (gh g 0)),(13,vI s.2)],[((gh g 0),.row zU s.1)])) (fun b=>(.exit 10,fun g=>([(11,.raw (gh g 0))],[((gh g 0),.row zU b)]))) (fun b=>(.ret,fun g=>([(2,vB b)],[]))) [(gh gb 0)] (fun sa ga _ ho=>?_) (fun bm ho gc=>?_) fun bn ho gc=>?_
       ·obtain ⟨xg,hah,ho⟩:=bnd ho;refine gct ho (fun hF ho=>?_) fun hF ho=>?_
        ·obtain ⟨xh,hai,xd,haj,ho⟩:=zfX ho;refine gal fun bo=>?_;refine gfz 1 zU xd 0 [14] ?_;refine gcl ho fun ys hak ho=>?_;refine wbr ho (fun hG ho=>?_) fun hG ho=>?_
         ·refine gk ?_;exact we ho
         ·refine gcl ho fun yt hal ho=>?_;refine gct ho (fun hH ho=>?_) fun hH ho=>?_
          ·exact we ho
          ·obtain ⟨tg,hI,ho⟩:=bnd ho;refine gl2 hI ho [1,11,12,13,14,196,197,198,199,200] [] [0] (fun s g=>([(15,vI s)],[((gh ga 0),.row zU sa.1)])) (fun b=>(.exit 12,fun g=>([],[((gh ga 0),.row zU sa.1)]))) (fun b=>(.ret,fun g=>([(2,vB b)],[]))) [] (fun sg gq _ ho=>?_) (fun bp ho gj=>?_) fun bq ho gj=>?_
           ·refine gct ho (fun hJ ho=>?_) fun hJ ho=>?_
            ·refine run 4 ?_;refine zaN [3] (by kernel_rfl) ?_;obtain ⟨xi,ham,ho⟩:=bnd ho;refine gct ho (fun hK ho=>?_) fun hK ho=>?_
             ·exact we ho
             ·exact lv [] [0] ho
            ·exact lv [] [0] ho
           ·obtain ⟨xj,han,ho⟩:=bnd ho;refine gap fun vb=>?_;exact lv [vb] [0] ho
           ·cases ho; exact id (lf [] [])
        ·exact lv [(gh ga 0)] [0] ho
       ·exact lv [(gh gc 0)] [0] ho
       ·cases ho; exact id (lf [] [])
      ·exact lv [(gh gb 0)] [0] ho
     ·exact we ho
     ·exact rv ho
    ·exact rv ho
   ·exact rv ho⟩
instance i52 {p_0 rail_1}:FI ktab 52 (zaH p_0 rail_1) [.val zaf p_0,vI rail_1] (fun out=>[wI out]):=⟨fun out ho=>by
 delta zaH at ho;refine fn fun _ _=>?_;refine gcl ho fun y1 hy1 ho=>?_;intro v2;show zq ..;obtain ⟨ta,ha,ho⟩:=bnd ho;refine glp ha [5] [] [0] (fun s g=>([(6,vI s.1),(7,vI s.2)],[(v2,.row zcE y1)])) (fun b=>(.exit 0,fun g=>([(6,vI b)],[]))) [] (fun sa ga _ ho=>?_) fun gb=>?_
 ·refine gct ho (fun hc ho=>?_) fun hc ho=>?_
  ·refine run 3 ?_;refine zaN [5,9] (by kernel_rfl) ?_;obtain ⟨xa,hd,xb,he,ho⟩:=zfX ho;refine gcl ho fun ya hf ho=>?_;exact lv [] [0] ho
  ·exact lv [] [] ho
 ·exact we ho⟩
instance i15 {p_0}:FI ktab 15 (zed p_0) [.val zaf p_0] (fun out=>[wB out]):=⟨fun out ho=>by
 delta zed at ho;refine fn fun _ _=>?_;obtain ⟨c2,hc2,ho⟩:=bnd ho;refine run 7 ?_;refine gcx c2 [1] [] (fun t=>(.normal,fun _=>([(16,vB t)],[]))) ?_ fun _=>?_
 ·exact we hc2
 ·refine gct ho (fun hq4 ho=>?_) fun hq4 ho=>?_
  ·exact we ho
  ·obtain ⟨ta,ha,ho⟩:=bnd ho;refine gl2 ha ho [1] [] [] (fun s g=>([(3,vI s)],[])) (fun b=>(.exit 0,fun g=>([],[]))) (fun b=>(.ret,fun g=>([(2,vB b)],[]))) [] (fun s8 g9 _ ho=>?_) (fun ba ho ga=>?_) fun bb ho ga=>?_
   ·exact we ho
   ·obtain ⟨tb,hc,ho⟩:=bnd ho;refine gl2 hc ho [1,4] [] [] (fun s g=>([(5,vI s)],[])) (fun b=>(.exit 2,fun g=>([],[]))) (fun b=>(.ret,fun g=>([(2,vB b)],[]))) [] (fun sa gc _ ho=>?_) (fun bc ho gb=>?_) fun bd ho gb=>?_
    ·exact we ho
    ·refine gcl ho fun ya hf ho=>?_;refine gct ho (fun hd ho=>?_) fun hd ho=>?_
     ·obtain ⟨tc,he,ho⟩:=bnd ho;refine glp he [1] [] [] (fun s g=>([(4,vI s.1),(6,vI s.2)],[])) (fun b=>(.exit 4,fun g=>([(4,vI b)],[]))) [] (fun sb gd _ ho=>?_) fun ge=>?_
      ·exact we ho
      ·exact we ho
     ·exact we ho
    ·exact rv ho
   ·exact rv ho⟩
instance i16 {l_0}:FI ktab 16 (zc2 l_0) [.val zbK l_0] (fun out=>[wB out]):=⟨fun out ho=>by
 delta zc2 at ho;refine fn fun _ _=>?_;obtain ⟨ca,ha,ho⟩:=bnd ho;refine run 6 ?_;refine gcx ca [] [] (fun t=>(.normal,fun _=>([(2,vB t)],[]))) ?_ fun _=>?_
 ·exact we ha
 ·exact rv ho⟩
instance i65 {n_0 low_1 high_2}:FI ktab 65 (zaY n_0 low_1 high_2) [vI n_0,vI low_1,vI high_2] (fun out=>[wB out]):=⟨fun out ho=>by
 delta zaY at ho;refine fn fun _ _=>?_;obtain ⟨c2,hc2,ho⟩:=bnd ho;refine run 5 ?_;refine gcx c2 [] [] (fun t=>(.normal,fun _=>([(6,vB t)],[]))) ?_ fun _=>?_
 ·exact we hc2
 ·exact rv ho⟩
instance i67 {l_0 home_1}:FI ktab 67 (zbN l_0 home_1) [.val zbK l_0,vB home_1] (fun out=>[.val zcF out]):=fw
instance i132 {p_0 m_1}:FI ktab 132 (zeV p_0 m_1) [.val zaf p_0,.val zJ m_1] (fun out=>[wB out]):=fw
instance i156 {m_0}:FI ktab 156 (zfB m_0) [.val zJ m_0] (fun out=>[.val zU out]):=fw
instance i157 {n_0 e_1}:FI ktab 157 (zdy n_0 e_1) [.val zb7 n_0,.val zU e_1] (fun out=>[wI out]):=⟨fun out ho=>by
 delta zdy at ho;refine fn fun _ _=>?_;obtain ⟨ta,ha,ho⟩:=bnd ho;refine gl2 ha ho [2,3] [] [] (fun s g=>([(5,vI s)],[])) (fun b=>(.exit 0,fun g=>([],[]))) (fun b=>(.ret,fun g=>([(4,vI b)],[]))) [] (fun s5 g6 _ ho=>?_) (fun ba ho ga=>?_) fun bb ho ga=>?_
 ·exact we ho
 ·exact we ho
 ·exact rv ho⟩
instance i158 {m_0}:FI ktab 158 (zhr m_0) [.val zJ m_0] (fun out=>[.val zU out]):=fw
instance i159 {n_0 a_1 b_2}:FI ktab 159 (zeW n_0 a_1 b_2) [.val zb7 n_0,vI a_1,vI b_2] (fun out=>[wB out]):=⟨fun out ho=>by
 delta zeW at ho;refine fn fun _ _=>?_;refine gct ho (fun hq1 ho=>?_) fun hq1 ho=>?_
 ·exact we ho
 ·refine gct ho (fun hq2 ho=>?_) fun hq2 ho=>?_
  ·obtain ⟨c5,hc5,ho⟩:=bnd ho;refine run 1 ?_;refine gcx c5 [] [] (fun t=>(.normal,fun _=>([(6,vB t)],[]))) ?_ fun _=>?_
   ·exact we hc5
   ·exact rv ho
  ·refine gct ho (fun hq8 ho=>?_) fun hq8 ho=>?_
   ·obtain ⟨ca,ha,ho⟩:=bnd ho;refine run 1 ?_;refine gcx ca [] [] (fun t=>(.normal,fun _=>([(6,vB t)],[]))) ?_ fun _=>?_
    ·exact we ha
    ·exact rv ho
   ·refine gct ho (fun hc ho=>?_) fun hc ho=>?_
    ·obtain ⟨cc,hd,ho⟩:=bnd ho;refine run 1 ?_;refine gcx cc [] [] (fun t=>(.normal,fun _=>([(6,vB t)],[]))) ?_ fun _=>?_
     ·exact we hd
     ·exact rv ho
    ·refine gct ho (fun he ho=>?_) fun he ho=>?_
     ·obtain ⟨cd,hf,ho⟩:=bnd ho;refine run 1 ?_;refine gcx cd [] [] (fun t=>(.normal,fun _=>([(6,vB t)],[]))) ?_ fun _=>?_
      ·exact we hf
      ·exact rv ho
     ·exact we ho⟩
instance i133 {p_0 m_1 n_2}:FI ktab 133 (zcP p_0 m_1 n_2) [.val zaf p_0,.val zJ m_1,.val zJ n_2] (fun out=>[wB out]):=⟨fun out ho=>by
 delta zcP at ho;refine fn fun _ _=>?_;refine gcl ho fun y3 hy3 ho=>?_;refine gcl ho fun y4 hy4 ho=>?_;obtain ⟨x5,hx5,ho⟩:=bnd ho;refine gal fun b6=>?_;refine gfz 1 zb7 x5 0 [8] ?_;refine gcl ho fun ya hc ho=>?_;refine gcl ho fun yb hd ho=>?_;refine gcl ho fun yc he ho=>?_;refine gcl ho fun yd hf ho=>?_;obtain ⟨ca,ha,ho⟩:=bnd ho;refine run 4 ?_;refine gcx ca [] [] (fun t=>(.normal,fun _=>([(6,vB t)],[]))) ?_ fun _=>?_
 ·exact we ha
 ·exact rv ho⟩
instance i102 {p_0 l_1}:FI ktab 102 (zeB p_0 l_1) [.val zaf p_0,.val (zf zJ) l_1] (fun out=>[wB out]):=⟨fun out ho=>by
 delta zeB at ho;refine fn fun _ _=>?_;obtain ⟨ta,ha,ho⟩:=bnd ho;refine gl2 ha ho [1,2] [] [] (fun s g=>([(5,vI s)],[])) (fun b=>(.exit 0,fun g=>([],[]))) (fun b=>(.ret,fun g=>([(4,vB b)],[]))) [] (fun sa gb _ ho=>?_) (fun ba ho ga=>?_) fun bb ho ga=>?_
 ·refine gct ho (fun hc ho=>?_) fun hc ho=>?_
  ·obtain ⟨xa,hf,ho⟩:=bnd ho;refine gcl ho fun ya hg ho=>?_;refine wbr ho (fun hd ho=>?_) fun hd ho=>?_
   ·refine gk ?_;exact we ho
   ·refine wbr ho (fun he ho=>?_) fun he ho=>?_
    ·refine run 5 ?_;exact we ho
    ·refine gk ?_;exact we ho
  ·exact lv [] [] ho
 ·exact we ho
 ·exact rv ho⟩
instance i103 {p_0 l_1}:FI ktab 103 (zcf p_0 l_1) [.val zaf p_0,.val (zf zJ) l_1] (fun out=>[wI out]):=⟨fun out ho=>by
 delta zcf at ho;refine fn fun _ _=>?_;obtain ⟨ta,ha,ho⟩:=bnd ho;refine glp ha [1,2] [] [] (fun s g=>([(5,vI s.1),(6,vI s.2)],[])) (fun b=>(.exit 0,fun g=>([(5,vI b)],[]))) [] (fun s6 g7 _ ho=>?_) fun ga=>?_
 ·exact we ho
 ·exact we ho⟩
instance i161 {x_0 low_1 high_2}:FI ktab 161 (zbo x_0 low_1 high_2) [vI x_0,vI low_1,vI high_2] (fun out=>[wB out]):=⟨fun out ho=>by
 delta zbo at ho;refine fn fun _ _=>?_;obtain ⟨c2,hc2,ho⟩:=bnd ho;refine run 5 ?_;refine gcx c2 [] [] (fun t=>(.normal,fun _=>([(6,vB t)],[]))) ?_ fun _=>?_
 ·exact we hc2
 ·exact rv ho⟩
instance i160 {t_0}:FI ktab 160 (zeh t_0) [.val zbR t_0] (fun out=>[wB out]):=⟨fun out ho=>by
 delta zeh at ho;refine fn fun _ _=>?_;obtain ⟨ca,ha,ho⟩:=bnd ho;refine run 7 ?_;refine gcx ca [1] [] (fun t=>(.normal,fun _=>([(62,vB t)],[]))) ?_ fun _=>?_
 ·exact we ha
 ·refine gct ho (fun hc ho=>?_) fun hc ho=>?_
  ·exact we ho
  ·obtain ⟨ta,hd,ho⟩:=bnd ho;refine gl2 hd ho [1] [] [] (fun s g=>([(3,vI s)],[])) (fun b=>(.exit 0,fun g=>([],[]))) (fun b=>(.ret,fun g=>([(2,vB b)],[]))) [] (fun sa gb _ ho=>?_) (fun ba ho ga=>?_) fun bb ho ga=>?_
   ·exact we ho
   ·exact we ho
   ·exact rv ho⟩
instance i134 {p_0 way_1 t_2 state_3 stops_4}:FI ktab 134 (zei p_0 way_1 t_2 state_3 stops_4) [.val zaf p_0,.val (zf zJ) way_1,.val zbR t_2,vI state_3,.val (zf (zj .i64)) stops_4] (fun out=>[wB out]):=⟨fun out ho=>by
 delta zei at ho;refine fn fun _ _=>?_;obtain ⟨ca,ha,ho⟩:=bnd ho;refine run 8 ?_;refine gcx ca [1,4,5] [] (fun t=>(.normal,fun _=>([(48,vB t)],[]))) ?_ fun _=>?_
 ·exact we ha
 ·refine gct ho (fun hc ho=>?_) fun hc ho=>?_
  ·exact we ho
  ·obtain ⟨ta,hd,ho⟩:=bnd ho;refine gl2 hd ho [1,4,5] [] [] (fun s g=>([(11,vI s)],[])) (fun b=>(.exit 0,fun g=>([],[]))) (fun b=>(.ret,fun g=>([(10,vB b)],[]))) [] (fun sa gb _ ho=>?_) (fun ba ho ga=>?_) fun bb ho ga=>?_
   ·exact we ho
   ·exact we ho
   ·exact rv ho⟩
instance i162 {t_0 x_1}:FI ktab 162 (zP t_0 x_1) [.val zbR t_0,.val zr x_1] (fun out=>[wI out]):=fw
instance i164 {r_0 place_1}:FI ktab 164 (za6 r_0 place_1) [.val zam r_0,vI place_1] (fun out=>[wI out]):=⟨fun out ho=>by
 delta za6 at ho;refine fn fun _ _=>?_;obtain ⟨ta,ha,ho⟩:=bnd ho;refine gl2 ha ho [1,2] [] [] (fun s g=>([(5,vI s.1),(6,vI s.2)],[])) (fun b=>(.exit 0,fun g=>([],[]))) (fun b=>(.ret,fun g=>([(4,vI b)],[]))) [] (fun sa gb _ ho=>?_) (fun ba ho ga=>?_) fun bb ho ga=>?_
 ·refine gct ho (fun hc ho=>?_) fun hc ho=>?_
  ·obtain ⟨xa,he,ho⟩:=bnd ho;refine gcl ho fun ya hf ho=>?_;refine wbr ho (fun hd ho=>?_) fun hd ho=>?_
   ·refine gk ?_;exact we ho
   ·refine run 9 ?_;exact we ho
  ·exact lv [] [] ho
 ·exact we ho
 ·exact rv ho⟩
instance i179 {t_0 speed_1 demand_2 slope_3 state_4}:FI ktab 179 (zdM t_0 speed_1 demand_2 slope_3 state_4) [.val zbR t_0,vI speed_1,vI demand_2,vI slope_3,vI state_4] (fun out=>[wI out.1,wI out.2.1,wI out.2.2.1,wI out.2.2.2]):=fw
instance i166 {t_0 x_1 demand_2 slope_3 state_4}:FI ktab 166 (zaJ t_0 x_1 demand_2 slope_3 state_4) [.val zbR t_0,.val zr x_1,vI demand_2,vI slope_3,vI state_4] (fun out=>[.val zr out.1,.val zw out.2.1,wB out.2.2]):=⟨fun out ho=>by
 delta zaJ at ho;refine fn fun _ _=>?_;refine gal fun b1=>?_;refine gal fun b2=>?_;obtain ⟨x5,hx5,ho⟩:=bnd ho;refine gcl ho fun y6 hy6 ho=>?_;refine gal fun b7=>?_;obtain ⟨ca,ha,ho⟩:=bnd ho;refine run 3 ?_;refine gcx ca [5,6,10,11,13,14,15,16,17,18,19] [0,1,2] (fun t=>(.normal,fun _=>([(57,vB t)],[]))) ?_ fun _=>?_
 ·have ho:=ha;refine wbr ho (fun hc ho=>?_) fun hc ho=>?_
  ·exact lv [] [0,1,2] ho
  ·refine wbr ho (fun hd ho=>?_) fun hd ho=>?_
   ·exact lv [] [0,1,2] ho
   ·exact lv [] [0,1,2] ho
 ·refine gct ho (fun he ho=>?_) fun he ho=>?_
  ·refine run 14 ?_;refine zaN [6,1000010,1000011,1000019] (by kernel_rfl) ?_ (hdi:=rdists rfl (rowns rfl) (.c (.o (j:=2) rfl rfl) (.c (.o (j:=1) rfl rfl) (.c (.o (j:=0) rfl rfl) .n))) rfl);refine glb ((0,0,0,0,0,(w64 (x_1.1*x_1.1)),()):z6) 0 ?_;exact we ho
  ·refine run 25 ?_;refine zaN [6,1000010,1000011,1000019] (by kernel_rfl) ?_ (hdi:=rdists rfl (rowns rfl) (.c (.o (j:=2) rfl rfl) (.c (.o (j:=1) rfl rfl) (.c (.o (j:=0) rfl rfl) .n))) rfl);refine glb ((((w64 ((w64 (200*y6.1))*(w64 (x_1.1+(w64 (100*(w64 ((w64 ((w64 (y6.1-y6.2.1))-y6.2.2.1))-y6.2.2.2)))))))),(w64 ((w64 (200*y6.2.1))*(w64 (x_1.1+(w64 (100*(w64 ((w64 ((w64 (y6.1-y6.2.1))-y6.2.2.1))-y6.2.2.2)))))))),(w64 ((w64 (200*y6.2.2.1))*(w64 (x_1.1+(w64 (100*(w64 ((w64 ((w64 (y6.1-y6.2.1))-y6.2.2.1))-y6.2.2.2)))))))),(w64 ((w64 (200*y6.2.2.2))*(w64 (x_1.1+(w64 (100*(w64 ((w64 ((w64 (y6.1-y6.2.1))-y6.2.2.1))-y6.2.2.2)))))))),(w64 ((w64 (10000*(w64 ((w64 ((w64 (y6.1-y6.2.1))-y6.2.2.1))-y6.2.2.2))))*(w64 ((w64 ((w64 (y6.1-y6.2.1))-y6.2.2.1))-y6.2.2.2)))),0,()):z6):z6) 0 ?_;exact we ho⟩
instance i207 {p_0 l_1 front_2 length_3}:FI ktab 207 (zdN p_0 l_1 front_2 length_3) [.val zaf p_0,.val (zf zJ) l_1,vI front_2,vI length_3] (fun out=>[.row zgQ out]):=⟨fun out ho=>by
 delta zdN at ho;refine fn fun _ _=>?_;refine gnr zgQ ?_;refine gnr zgQ ?_;obtain ⟨ta,ha,ho⟩:=bnd ho;refine glp ha [1,2,3,4] [] [0] (fun s g=>([(9,.raw (gh g 0)),(10,vI s.2.1),(11,vI s.2.2)],[((gh g 0),.row zgQ s.1)])) (fun b=>(.exit 0,fun g=>([(9,.raw (gh g 0))],[((gh g 0),.row zgQ b)]))) [.nilslice] (fun sa ga _ ho=>?_) fun gb=>?_
 ·refine gct ho (fun hc ho=>?_) fun hc ho=>?_
  ·obtain ⟨xa,hf,ho⟩:=bnd ho;refine gcl ho fun ya hg ho=>?_;refine gct ho (fun hd ho=>?_) fun hd ho=>?_
   ·exact lv [(gh ga 0)] [0] ho
   ·obtain ⟨xb,hh,ho⟩:=bnd ho;refine gct ho (fun he ho=>?_) fun he ho=>?_
    ·obtain ⟨xd,hi,xe,hj,ho⟩:=zfX ho;refine gap fun va=>?_;exact lv [va] [0] ho
    ·obtain ⟨xf,hk,xg,hl,ho⟩:=zfX ho;refine gap fun vb=>?_;exact lv [vb] [0] ho
  ·exact lv [(gh ga 0)] [0] ho
 ·exact we ho⟩
instance i190 {p_0 way_1 t_2 place_3}:FI ktab 190 (zdz p_0 way_1 t_2 place_3) [.val zaf p_0,.val (zf zJ) way_1,.val zbR t_2,vI place_3] (fun out=>[wI out]):=⟨fun out ho=>by
 delta zdz at ho;refine fn fun _ _=>?_;refine gcl ho fun y1 hy1 ho=>?_;intro v2;show zq ..;obtain ⟨ta,ha,ho⟩:=bnd ho;refine glp ha [4,9] [] [0] (fun s g=>([(10,vI s.1),(11,vI s.2)],[(v2,.row zgQ y1)])) (fun b=>(.exit 0,fun g=>([(10,vI b)],[]))) [] (fun s8 g9 _ ho=>?_) fun ga=>?_
 ·refine gct ho (fun hc ho=>?_) fun hc ho=>?_
  ·refine run 3 ?_;refine zaN [7] (by kernel_rfl) ?_;obtain ⟨xa,hd,ho⟩:=bnd ho;refine run 7 ?_;refine zop 0 (fun _ h=>by cases h<;>rfl) iu' zqr (zft hd).2.2.2 (.n rfl) rfl rfl (.t rfl) rfl ?_;obtain ⟨xb,he,ho⟩:=bnd ho;exact lv [] [0] ho
  ·exact lv [] [] ho
 ·exact we ho⟩
instance i178 {r_0 x_1}:FI ktab 178 (zd1 r_0 x_1) [.val zam r_0,.val zr x_1] (fun out=>[wB out]):=⟨fun out ho=>by
 delta zd1 at ho;refine fn fun _ _=>?_;refine run 3 ?_;refine xbo fun b1=>?_;obtain ⟨ta,ha,ho⟩:=bnd ho;refine glp ha [2,3] [] [0] (fun s g=>([(5,vI s.1)],[(.ptr b1 0,.box [vI s.2.1,vI s.2.2])])) (fun b=>(.ret,fun g=>([(4,vB b.1)],[]))) [] (fun sa ga _ ho=>?_) fun gb=>?_
 ·refine run 4 ?_;refine zaN [2,9,22] (by kernel_rfl) ?_;refine glb (sa.2.1,sa.2.2,()) 0 ?_;refine gcl ho fun ya hh ho=>?_;refine wbr ho (fun hc ho=>?_) fun hc ho=>?_
  ·refine gk ?_;exact we ho
  ·obtain ⟨xa,hi,ho⟩:=bnd ho;refine glb (sa.2.1,sa.2.2,()) 0 ?_;refine gcl ho fun yb hj ho=>?_;refine gcl ho fun yc hk ho=>?_;refine gct ho (fun hd ho=>?_) fun hd ho=>?_
   ·exact we ho
   ·refine gct ho (fun he ho=>?_) fun he ho=>?_
    ·exact we ho
    ·refine gct ho (fun hf ho=>?_) fun hf ho=>?_
     ·exact we ho
     ·refine run 6 ?_;refine zaN [2,6] (by kernel_rfl) ?_;refine glb (sa.2.1,sa.2.2,()) 0 ?_;refine glb (sa.2.1,sa.2.2,()) 0 ?_;refine gcl ho fun yd hl ho=>?_;refine gcl ho fun ye hm ho=>?_;refine gcl ho fun yf hn ho=>?_;refine gct ho (fun hg ho=>?_) fun hg ho=>?_
      ·exact we ho
      ·exact lv [] [0] ho
 ·exact rv ho⟩
instance i163 {r_0 x_1}:FI ktab 163 (zcx r_0 x_1) [.val zam r_0,.val zr x_1] (fun out=>[wI out.1,wB out.2]):=⟨fun out ho=>by
 delta zcx at ho;refine fn fun _ _=>?_;obtain ⟨ta,ha,ho⟩:=bnd ho;refine gl2 ha ho [2,3] [] [] (fun s g=>([(6,vI s)],[])) (fun b=>(.exit 0,fun g=>([],[]))) (fun b=>(.ret,fun g=>([(4,vI b.1),(5,vB b.2)],[]))) [] (fun sa gb _ ho=>?_) (fun ba ho ga=>?_) fun bb ho ga=>?_
 ·refine gct ho (fun hc ho=>?_) fun hc ho=>?_
  ·refine gcl ho fun yb he ho=>?_;refine gcl ho fun yc hf ho=>?_;refine gcl ho fun ya hg ho=>?_;refine gal fun bc=>?_;refine gal fun bd=>?_;refine gfz 1 zr ya.1 1 [7] ?_;refine gfz 1 zw ya.2.1 0 [8] ?_;refine wbr ho (fun hd ho=>?_) fun hd ho=>?_
   ·exact we ho
   ·refine gk ?_;exact we ho
  ·exact lv [] [] ho
 ·exact we ho
 ·exact rv ho⟩
end Go.Ai.TabYtppebpagcocogaaGreat
