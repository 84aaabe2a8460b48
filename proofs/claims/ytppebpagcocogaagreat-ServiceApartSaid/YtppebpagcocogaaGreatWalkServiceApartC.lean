/- Written by program: walks through functions. -/
import Derived.Test.YtppebpagcocogaaGreatS11
import Derived.Test.YtppebpagcocogaaGreatS20
import Derived.Test.YtppebpagcocogaaGreatS19
import Derived.Test.YtppebpagcocogaaGreatS17
set_option linter.unusedSimpArgs false
set_option linter.unusedVariables false
set_option linter.unusedSectionVars false
namespace Go.Ai.TabYtppebpagcocogaaGreat
open Go Go.Ai Go.Ai.Sx Go.Proofs
attribute [local irreducible] zq
set_option maxRecDepth 100000
set_option maxHeartbeats 4000000
instance i68 {p_0 l_1 home_2}:FI ktab 68 (zas p_0 l_1 home_2) [.val zaf p_0,.val zbK l_1,vB home_2] (fun out=>[wI out]):=⟨fun out ho=>by
 delta zas at ho;refine fn fun _ _=>?_;refine gcl ho fun y1 hy1 ho=>?_;intro v2;exact we ho⟩
instance i25 {p_0 l_1}:FI ktab 25 (zcy p_0 l_1) [.val zaf p_0,.val zbK l_1] (fun out=>[wI out]):=fw
instance i107 {r_0 side_1 headway_2 offset_3}:FI ktab 107 (z4 r_0 side_1 headway_2 offset_3) [.val (zaQ zg) r_0,vI side_1,vI headway_2,vI offset_3] (fun out=>[wI out]):=fw
instance i108 {n_0 h_1}:FI ktab 108 (zat n_0 h_1) [vI n_0,vI h_1] (fun out=>[wI out]):=fw
instance i39 {a_0 n_1}:FI ktab 39 (zaL a_0 n_1) [vI a_0,vI n_1] (fun out=>[wI out]):=fw
instance i78 {p_0 l_1 h_2}:FI ktab 78 (zcz p_0 l_1 h_2) [.val zaf p_0,.val zbK l_1,vI h_2] (fun out=>[wI out]):=fw
instance i38 {p_0 s_1 line_2 home_3}:FI ktab 38 (z8 p_0 s_1 line_2 home_3) [.val zaf p_0,.val zac s_1,vI line_2,vB home_3] (fun out=>[wI out]):=⟨fun out ho=>by
 delta z8 at ho;refine fn fun _ _=>?_;obtain ⟨x1,hx1,ho⟩:=bnd ho;refine gal fun b2=>?_;refine gfz 1 zbK x1 0 [9] ?_;exact we ho⟩
instance i76 {p_0 s_1 line_2 factor_3 gap_4}:FI ktab 76 (za9 p_0 s_1 line_2 factor_3 gap_4) [.val zaf p_0,.val zac s_1,vI line_2,vI factor_3,vI gap_4] (fun out=>[.val (zez zg) out.1,wB out.2]):=⟨fun out ho=>by
 delta za9 at ho;refine fn fun _ _=>?_;refine run 4 ?_;refine zai rfl (.n rfl) rfl (e:=.val (zez zg) none) (fun z fr h s=>⟨_,rfl,zci⟩) ?_;refine gcl ho fun y1 hy1 ho=>?_;obtain ⟨c8,hc8,ho⟩:=bnd ho;refine run 8 ?_;refine gcx c8 [2,12] [] (fun t=>(.normal,fun _=>([(40,vB t)],[]))) ?_ fun _=>?_
 ·exact we hc8
 ·refine gct ho (fun ha ho=>?_) fun ha ho=>?_
  ·refine run 2 ?_;refine zai rfl (.n rfl) rfl (e:=.val (zez zg) none) (fun z fr h s=>⟨_,rfl,zci⟩) ?_;exact we ho
  ·obtain ⟨xa,hc,ho⟩:=bnd ho;refine run 10 ?_;cases ho;refine zn1 (ziC (n:=10) rfl) ?_;exact zfx (zdh (.inr rfl) (.v rfl (.v rfl .n)) (by decide))⟩
instance i110 {r_0 side_1 factor_2}:FI ktab 110 (zaF r_0 side_1 factor_2) [.val (zaQ zg) r_0,vI side_1,vI factor_2] (fun out=>[.row (zj .i64) out]):=⟨fun out ho=>by
 delta zaF at ho;refine fn fun _ _=>?_;refine gnr (zj .i64) ?_;obtain ⟨x1,hx1,ho⟩:=bnd ho;refine run 7 ?_;refine zbf ia' hx1 (.n rfl) rfl rfl (.t rfl) (.t rfl) ?_;obtain ⟨x2,hx2,ho⟩:=bnd ho;refine gmk fun v3=>?_;obtain ⟨ta,ha,ho⟩:=bnd ho;refine glp ha [0,1,2,7] [] [0] (fun s g=>([(8,vI s.1)],[(v3,.row (zj .i64) s.2)])) (fun b=>(.exit 0,fun g=>([],[(v3,.row (zj .i64) b)]))) [] (fun sa ga _ ho=>?_) fun gb=>?_
 ·refine gct ho (fun hc ho=>?_) fun hc ho=>?_
  ·refine run 3 ?_;refine zaN [6] (by kernel_rfl) ?_;obtain ⟨xa,he,xb,hd,ho⟩:=zfX ho;refine run 11 ?_;refine zbf ia' hd (.n rfl) rfl rfl (.t rfl) (.t rfl) ?_;obtain ⟨xd,hf,xe,hg,ho⟩:=zfX ho;refine gcl ho fun ya hh ho=>?_;obtain ⟨xf,hi,xg,hj,xh,hk,ho⟩:=zn2 ho;exact lv [] [0] ho
  ·exact lv [] [0] ho
 ·exact we ho⟩
instance i77 {r_0 side_1 headway_2 offset_3 depart_4 factor_5 gap_6}:FI ktab 77 (zar r_0 side_1 headway_2 offset_3 depart_4 factor_5 gap_6) [.val (zaQ zg) r_0,vI side_1,vI headway_2,vI offset_3,vI depart_4,vI factor_5,vI gap_6] (fun out=>[wB out]):=⟨fun out ho=>by
 delta zar at ho;refine fn fun _ _=>?_;refine gcl ho fun y1 hy1 ho=>?_;intro v2;show zq ..;refine gcl ho fun y3 hy3 ho=>?_;obtain ⟨ta,ha,ho⟩:=bnd ho;refine gl2 ha ho [0,1,2,4,6,16,32,33] [] [0] (fun s g=>([(17,vI s.1),(34,vI s.2)],[(v2,.row (zj .i64) y1)])) (fun b=>(.exit 0,fun g=>([],[]))) (fun b=>(.ret,fun g=>([(14,vB b)],[]))) [] (fun sa gb _ ho=>?_) (fun ba ho ga=>?_) fun bb ho ga=>?_
 ·refine gct ho (fun hc ho=>?_) fun hc ho=>?_
  ·obtain ⟨xa,hi,xb,hd,ho⟩:=zfX ho;refine run 22 ?_;refine zbf ia' hd (.n rfl) rfl rfl (.t rfl) (.t rfl) ?_;obtain ⟨xd,hj,ho⟩:=bnd ho;refine gcl ho fun ya hk ho=>?_;refine wbr ho (fun he ho=>?_) fun he ho=>?_
   ·refine gk ?_;exact we ho
   ·refine gct ho (fun hf ho=>?_) fun hf ho=>?_
    ·exact we ho
    ·obtain ⟨xe,hl,ho⟩:=bnd ho;refine wbr ho (fun hg ho=>?_) fun hg ho=>?_
     ·refine gct ho (fun hh ho=>?_) fun hh ho=>?_
      ·exact we ho
      ·exact lv [] [0] ho
     ·refine gk ?_;exact lv [] [0] ho
  ·exact lv [] [] ho
 ·exact we ho
 ·exact rv ho⟩
instance i36 {p_0 s_1 line_2 home_3 from_4 factor_5 gap_6}:FI ktab 36 (zaV p_0 s_1 line_2 home_3 from_4 factor_5 gap_6) [.val zaf p_0,.val zac s_1,vI line_2,vB home_3,vI from_4,vI factor_5,vI gap_6] (fun out=>[wI out.1,wI out.2]):=⟨fun out ho=>by
 delta zaV at ho;refine fn fun _ _=>?_;refine gcl ho fun y1 hy1 ho=>?_;obtain ⟨c4,hc4,ho⟩:=bnd ho;refine run 8 ?_;refine gcx c4 [2,3,4,5,6,8,16] [] (fun t=>(.normal,fun _=>([(34,vB t)],[]))) ?_ fun _=>?_
 ·exact we hc4
 ·refine gct ho (fun hq7 ho=>?_) fun hq7 ho=>?_
  ·exact we ho
  ·obtain ⟨ta,ha,ho⟩:=bnd ho;refine gl2 ha ho [2,3,4,5,6,8,16] [] [] (fun s g=>([(18,vI s)],[])) (fun b=>(.exit 0,fun g=>([],[]))) (fun b=>(.ret,fun g=>([(14,vI b.1),(15,vI b.2)],[]))) [] (fun sa gb _ ho=>?_) (fun ba ho ga=>?_) fun bb ho ga=>?_
   ·refine gct ho (fun hc ho=>?_) fun hc ho=>?_
    ·refine gcl ho fun ya he ho=>?_;obtain ⟨xa,hf,xb,hg,pa,hd,ho⟩:=zn2 ho;refine run 13 ?_;refine zgz (zcc (n:=42) hd rfl) ?_;exact we ho
    ·exact lv [] [] ho
   ·exact we ho
   ·exact rv ho⟩
instance i6 {p_0 s_1 line_2 home_3 from_4 factor_5 gap_6}:FI ktab 6 (zb3 p_0 s_1 line_2 home_3 from_4 factor_5 gap_6) [.val zaf p_0,.val zac s_1,vI line_2,vB home_3,vI from_4,vI factor_5,vI gap_6] (fun out=>[wB out]):=⟨fun out ho=>by
 delta zb3 at ho;refine fn fun _ _=>?_;obtain ⟨ca,hh,ho⟩:=bnd ho;refine run 8 ?_;refine gcx ca [2,3,4,5,6,7,8] [] (fun t=>(.normal,fun _=>([(81,vB t)],[]))) ?_ fun _=>?_
 ·exact we hh
 ·refine gct ho (fun hi ho=>?_) fun hi ho=>?_
  ·exact we ho
  ·refine gcl ho fun yb hap ho=>?_;refine gct ho (fun hj ho=>?_) fun hj ho=>?_
   ·obtain ⟨cc,hk,ho⟩:=bnd ho;refine run 1 ?_;refine gcx cc [] [] (fun t=>(.normal,fun _=>([(14,vB t)],[]))) ?_ fun _=>?_
    ·exact we hk
    ·exact rv ho
   ·obtain ⟨xd,haq,ho⟩:=bnd ho;refine gcl ho fun yc har ho=>?_;refine run 12 ?_;obtain ⟨xe,has,ho⟩:=bnd ho;refine gcl ho fun ya hat ho=>?_;intro va;show zq ..;refine run 7 ?_;obtain ⟨xa,hau,ho⟩:=bnd ho;refine gal fun ba=>?_;refine gct ho (fun hl ho=>?_) fun hl ho=>?_
    ·obtain ⟨xb,hav,xf,haw,cd,hm,ho⟩:=zn2 ho;refine run 20 ?_;refine gcx cd [2,3,4,5,6,7,8,15,17,18,19,20,21] [0,1] (fun t=>(.normal,fun _=>([(171,vB t)],[]))) ?_ fun _=>?_
     ·have ho:=hm;refine wbr ho (fun hn ho=>?_) fun hn ho=>?_
      ·exact lv [] [0,1] ho
      ·refine wbr ho (fun hp ho=>?_) fun hp ho=>?_
       ·exact lv [] [0,1] ho
       ·obtain ⟨xg,hax,ho⟩:=bnd ho;refine wbr ho (fun hr ho=>?_) fun hr ho=>?_
        ·exact lv [] [0,1] ho
        ·refine wbr ho (fun hs ho=>?_) fun hs ho=>?_
         ·exact lv [] [0,1] ho
         ·exact lv [] [0,1] ho
     ·refine gct ho (fun ht ho=>?_) fun ht ho=>?_
      ·obtain ⟨ce,hu,ho⟩:=bnd ho;refine run 1 ?_;refine gcx ce [] [0,1] (fun t=>(.normal,fun _=>([(14,vB t)],[]))) ?_ fun _=>?_
       ·have ho:=hu;refine wbr ho (fun hv ho=>?_) fun hv ho=>?_
        ·refine wbr ho (fun hw ho=>?_) fun hw ho=>?_
         ·refine wbr ho (fun hy ho=>?_) fun hy ho=>?_
          ·refine wbr ho (fun hz ho=>?_) fun hz ho=>?_
           ·refine gcl ho fun yd hay ho=>?_;exact lv [] [0,1] ho
           ·exact lv [] [0,1] ho
          ·exact lv [] [0,1] ho
         ·exact lv [] [0,1] ho
        ·exact lv [] [0,1] ho
       ·exact rv ho
      ·obtain ⟨ta,hA,ho⟩:=bnd ho;refine gl2 hA ho [2,3,5,6,7,8,17,21] [] [0,1] (fun s g=>([(19,.raw va),(20,.raw (.ptr ba 0)),(22,vI s.1),(23,vI s.2.1),(24,vI s.2.2)],[(.ptr ba 0,.box [.val (zf zJ) xb.2.1.1,.val (zf (zj .i64)) xb.2.1.2.1,.val (zf (zj .i64)) xb.2.1.2.2.1]),(va,.row (zj .i64) ya)])) (fun b=>(.exit 0,fun g=>([],[]))) (fun b=>(.ret,fun g=>([(14,vB b)],[]))) [] (fun sa gg _ ho=>?_) (fun bb ho ga=>?_) fun bc ho ga=>?_
       ·refine gct ho (fun hB ho=>?_) fun hB ho=>?_
        ·refine gct ho (fun ha ho=>?_) fun ha ho=>?_
         ·refine zaN [5,12] (by kernel_rfl) ?_;obtain ⟨xh,haz,xi,haA,xj,haB,ho⟩:=zn2 ho;refine gcl ho fun ye haC ho=>?_;refine gcl ho fun yf haD ho=>?_;obtain ⟨tb,hC,ho⟩:=bnd ho;refine gl2 hC ho [2,3,5,6,7,8,17,19,20,21,22,23,24] [] [0,1] (fun s g=>([(26,vI s.1),(27,vI s.2)],[(.ptr ba 0,.box [.val (zf zJ) xb.2.1.1,.val (zf (zj .i64)) xb.2.1.2.1,.val (zf (zj .i64)) xb.2.1.2.2.1]),(va,.row (zj .i64) ya)])) (fun b=>(.exit 2,fun g=>([(26,vI b)],[(.ptr ba 0,.box [.val (zf zJ) xb.2.1.1,.val (zf (zj .i64)) xb.2.1.2.1,.val (zf (zj .i64)) xb.2.1.2.2.1]),(va,.row (zj .i64) ya)]))) (fun b=>(.ret,fun g=>([(14,vB b)],[]))) [] (fun sb gh _ ho=>?_) (fun bd ho gb=>?_) fun be ho gb=>?_
          ·refine gct ho (fun hD ho=>?_) fun hD ho=>?_
           ·obtain ⟨xk,haE,ho⟩:=bnd ho;refine wbr ho (fun hE ho=>?_) fun hE ho=>?_
            ·refine gct ho (fun hF ho=>?_) fun hF ho=>?_
             ·exact we ho
             ·refine gct ho (fun hG ho=>?_) fun hG ho=>?_
              ·exact lv [] [0,1] ho
              ·exact lv [] [0,1] ho
            ·refine gk ?_;refine gct ho (fun hH ho=>?_) fun hH ho=>?_
             ·exact lv [] [0,1] ho
             ·exact lv [] [0,1] ho
           ·exact lv [] [0,1] ho
          ·refine wbr ho (fun hd ho=>?_) fun hd ho=>?_
           ·refine gct ho (fun hI ho=>?_) fun hI ho=>?_
            ·exact we ho
            ·exact lv [] [0,1] ho
           ·refine run 6 ?_;exact Bool.noConfusion (ha.symm.trans hd)
          ·cases ho; exact id (lf [] [])
         ·refine gcl ho fun yg haF ho=>?_;refine gcl ho fun yh haG ho=>?_;obtain ⟨tc,hJ,ho⟩:=bnd ho;refine gl2 hJ ho [2,3,5,6,7,8,17,19,20,21,22,23,24] [] [0,1] (fun s g=>([(26,vI s.1),(27,vI s.2)],[(.ptr ba 0,.box [.val (zf zJ) xb.2.1.1,.val (zf (zj .i64)) xb.2.1.2.1,.val (zf (zj .i64)) xb.2.1.2.2.1]),(va,.row (zj .i64) ya)])) (fun b=>(.exit 2,fun g=>([(26,vI b)],[(.ptr ba 0,.box [.val (zf zJ) xb.2.1.1,.val (zf (zj .i64)) xb.2.1.2.1,.val (zf (zj .i64)) xb.2.1.2.2.1]),(va,.row (zj .i64) ya)]))) (fun b=>(.ret,fun g=>([(14,vB b)],[]))) [] (fun sc gi _ ho=>?_) (fun bf ho gc=>?_) fun bg ho gc=>?_
          ·refine gct ho (fun hK ho=>?_) fun hK ho=>?_
           ·obtain ⟨xl,haH,ho⟩:=bnd ho;refine wbr ho (fun hL ho=>?_) fun hL ho=>?_
            ·refine gct ho (fun hM ho=>?_) fun hM ho=>?_
             ·exact we ho
             ·refine gct ho (fun hN ho=>?_) fun hN ho=>?_
              ·exact lv [] [0,1] ho
              ·exact lv [] [0,1] ho
            ·refine gk ?_;refine gct ho (fun hO ho=>?_) fun hO ho=>?_
             ·exact lv [] [0,1] ho
             ·exact lv [] [0,1] ho
           ·exact lv [] [0,1] ho
          ·refine wbr ho (fun he ho=>?_) fun he ho=>?_
           ·refine run 6 ?_;exact Bool.noConfusion (he.symm.trans ha)
           ·refine gk ?_;exact lv [] [0,1] ho
          ·cases ho; exact id (lf [] [])
        ·exact lv [] [] ho
       ·exact we ho
       ·exact rv ho
    ·obtain ⟨xm,haI,cf,hP,ho⟩:=zfX ho;refine run 12 ?_;refine gcx cf [2,3,4,5,6,7,8,15,17,18,19,20,21] [0,1] (fun t=>(.normal,fun _=>([(171,vB t)],[]))) ?_ fun _=>?_
     ·have ho:=hP;refine wbr ho (fun hQ ho=>?_) fun hQ ho=>?_
      ·exact lv [] [0,1] ho
      ·refine wbr ho (fun hR ho=>?_) fun hR ho=>?_
       ·exact lv [] [0,1] ho
       ·obtain ⟨xn,haJ,ho⟩:=bnd ho;refine wbr ho (fun hS ho=>?_) fun hS ho=>?_
        ·exact lv [] [0,1] ho
        ·refine wbr ho (fun hT ho=>?_) fun hT ho=>?_
         ·exact lv [] [0,1] ho
         ·exact lv [] [0,1] ho
     ·refine gct ho (fun hU ho=>?_) fun hU ho=>?_
      ·obtain ⟨cg,hV,ho⟩:=bnd ho;refine run 1 ?_;refine gcx cg [] [0,1] (fun t=>(.normal,fun _=>([(14,vB t)],[]))) ?_ fun _=>?_
       ·have ho:=hV;refine wbr ho (fun hW ho=>?_) fun hW ho=>?_
        ·refine wbr ho (fun hX ho=>?_) fun hX ho=>?_
         ·refine wbr ho (fun hY ho=>?_) fun hY ho=>?_
          ·refine wbr ho (fun hZ ho=>?_) fun hZ ho=>?_
           ·refine gcl ho fun yi haK ho=>?_;exact lv [] [0,1] ho
           ·exact lv [] [0,1] ho
          ·exact lv [] [0,1] ho
         ·exact lv [] [0,1] ho
        ·exact lv [] [0,1] ho
       ·exact rv ho
      ·obtain ⟨td,haa,ho⟩:=bnd ho;refine gl2 haa ho [2,3,5,6,7,8,17,21] [] [0,1] (fun s g=>([(19,.raw va),(20,.raw (.ptr ba 0)),(22,vI s.1),(23,vI s.2.1),(24,vI s.2.2)],[(.ptr ba 0,.box [.val (zf zJ) xa.1.1,.val (zf (zj .i64)) xa.1.2.1,.val (zf (zj .i64)) xa.1.2.2.1]),(va,.row (zj .i64) ya)])) (fun b=>(.exit 0,fun g=>([],[]))) (fun b=>(.ret,fun g=>([(14,vB b)],[]))) [] (fun sd gj _ ho=>?_) (fun bh ho gd=>?_) fun bi ho gd=>?_
       ·refine gct ho (fun hab ho=>?_) fun hab ho=>?_
        ·refine gct ho (fun hc ho=>?_) fun hc ho=>?_
         ·refine zaN [5,12] (by kernel_rfl) ?_;obtain ⟨xo,haL,xp,haM,xq,haN,ho⟩:=zn2 ho;refine gcl ho fun yj haO ho=>?_;refine gcl ho fun yk haP ho=>?_;obtain ⟨te,hac,ho⟩:=bnd ho;refine gl2 hac ho [2,3,5,6,7,8,17,19,20,21,22,23,24] [] [0,1] (fun s g=>([(26,vI s.1),(27,vI s.2)],[(.ptr ba 0,.box [.val (zf zJ) xa.1.1,.val (zf (zj .i64)) xa.1.2.1,.val (zf (zj .i64)) xa.1.2.2.1]),(va,.row (zj .i64) ya)])) (fun b=>(.exit 2,fun g=>([(26,vI b)],[(.ptr ba 0,.box [.val (zf zJ) xa.1.1,.val (zf (zj .i64)) xa.1.2.1,.val (zf (zj .i64)) xa.1.2.2.1]),(va,.row (zj .i64) ya)]))) (fun b=>(.ret,fun g=>([(14,vB b)],[]))) [] (fun se gl _ ho=>?_) (fun bj ho ge=>?_) fun bk ho ge=>?_
          ·refine gct ho (fun had ho=>?_) fun had ho=>?_
           ·obtain ⟨xr,haQ,ho⟩:=bnd ho;refine wbr ho (fun hae ho=>?_) fun hae ho=>?_
            ·refine gct ho (fun haf ho=>?_) fun haf ho=>?_
             ·exact we ho
             ·refine gct ho (fun hag ho=>?_) fun hag ho=>?_
              ·exact lv [] [0,1] ho
              ·exact lv [] [0,1] ho
            ·refine gk ?_;refine gct ho (fun hah ho=>?_) fun hah ho=>?_
             ·exact lv [] [0,1] ho
             ·exact lv [] [0,1] ho
           ·exact lv [] [0,1] ho
          ·refine wbr ho (fun hf ho=>?_) fun hf ho=>?_
           ·refine gct ho (fun hai ho=>?_) fun hai ho=>?_
            ·exact we ho
            ·exact lv [] [0,1] ho
           ·refine run 6 ?_;exact Bool.noConfusion (hc.symm.trans hf)
          ·cases ho; exact id (lf [] [])
         ·refine gcl ho fun yl haR ho=>?_;refine gcl ho fun ym haS ho=>?_;obtain ⟨tf,haj,ho⟩:=bnd ho;refine gl2 haj ho [2,3,5,6,7,8,17,19,20,21,22,23,24] [] [0,1] (fun s g=>([(26,vI s.1),(27,vI s.2)],[(.ptr ba 0,.box [.val (zf zJ) xa.1.1,.val (zf (zj .i64)) xa.1.2.1,.val (zf (zj .i64)) xa.1.2.2.1]),(va,.row (zj .i64) ya)])) (fun b=>(.exit 2,fun g=>([(26,vI b)],[(.ptr ba 0,.box [.val (zf zJ) xa.1.1,.val (zf (zj .i64)) xa.1.2.1,.val (zf (zj .i64)) xa.1.2.2.1]),(va,.row (zj .i64) ya)]))) (fun b=>(.ret,fun g=>([(14,vB b)],[]))) [] (fun sf gm _ ho=>?_) (fun bl ho gf=>?_) fun bm ho gf=>?_
          ·refine gct ho (fun hak ho=>?_) fun hak ho=>?_
           ·obtain ⟨xt,haT,ho⟩:=bnd ho;refine wbr ho (fun hal ho=>?_) fun hal ho=>?_
            ·refine gct ho (fun ham ho=>?_) fun ham ho=>?_
             ·exact we ho
             ·refine gct ho (fun han ho=>?_) fun han ho=>?_
              ·exact lv [] [0,1] ho
              ·exact lv [] [0,1] ho
            ·refine gk ?_;refine gct ho (fun hao ho=>?_) fun hao ho=>?_
             ·exact lv [] [0,1] ho
             ·exact lv [] [0,1] ho
           ·exact lv [] [0,1] ho
          ·refine wbr ho (fun hg ho=>?_) fun hg ho=>?_
           ·refine run 6 ?_;exact Bool.noConfusion (hg.symm.trans hc)
           ·refine gk ?_;exact lv [] [0,1] ho
          ·cases ho; exact id (lf [] [])
        ·exact lv [] [] ho
       ·exact we ho
       ·exact rv ho⟩
end Go.Ai.TabYtppebpagcocogaaGreat
