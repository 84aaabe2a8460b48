/- Written by program: walks through functions. -/
import Derived.Test.YtppebpagcocogaaGreatS11
import Derived.Test.YtppebpagcocogaaGreatS20
import Derived.Test.YtppebpagcocogaaGreatS16
import Derived.Test.YtppebpagcocogaaGreatS19
import Derived.Test.YtppebpagcocogaaGreatS17
set_option linter.unusedSimpArgs false
set_option linter.unusedVariables false
set_option linter.unusedSectionVars false
namespace Go.Ai.TabYtppebpagcocogaaGreat
open Go Go.Ai Go.Ai.Sx Go.Proofs
attribute [local irreducible] zq
set_option maxRecDepth 100000
set_option maxHeartbeats 4000000
instance i68 {p_0 l_1 home_2}:FI ktab 68 (zas p_0 l_1 home_2) [.val zaf p_0,.val zbK l_1,vB home_2] (fun out=>[wI out]):=⟨fun out ho=>by
 delta zas at ho;refine fn fun _ _=>?_;refine gcl ho fun y1 hy1 ho=>?_;intro v2;exact we ho⟩
instance i25 {p_0 l_1}:FI ktab 25 (zcy p_0 l_1) [.val zaf p_0,.val zbK l_1] (fun out=>[wI out]):=fw
instance i107 {r_0 side_1 headway_2 offset_3}:FI ktab 107 (z4 r_0 side_1 headway_2 offset_3) [.val (zaQ zg) r_0,vI side_1,vI headway_2,vI offset_3] (fun out=>[wI out]):=fw
instance i108 {n_0 h_1}:FI ktab 108 (zat n_0 h_1) [vI n_0,vI h_1] (fun out=>[wI out]):=fw
instance i39 {a_0 n_1}:FI ktab 39 (zaL a_0 n_1) [vI a_0,vI n_1] (fun out=>[wI out]):=fw
instance i78 {p_0 l_1 h_2}:FI ktab 78 (zcz p_0 l_1 h_2) [.val zaf p_0,.val zbK l_1,vI h_2] (fun out=>[wI out]):=fw
instance i38 {p_0 s_1 line_2 home_3}:FI ktab 38 (z8 p_0 s_1 line_2 home_3) [.val zaf p_0,.val zac s_1,vI line_2,vB home_3] (fun out=>[wI out]):=⟨fun out ho=>by
 delta z8 at ho;refine fn fun _ _=>?_;obtain ⟨x1,hx1,ho⟩:=bnd ho;refine gal fun b2=>?_;refine gfz 1 zbK x1 0 [9] ?_;exact we ho⟩
instance i76 {p_0 s_1 line_2 factor_3 gap_4}:FI ktab 76 (za9 p_0 s_1 line_2 factor_3 gap_4) [.val zaf p_0,.val zac s_1,vI line_2,vI factor_3,vI gap_4] (fun out=>[.val (zez zg) out.1,wB out.2]):=⟨fun out ho=>by
 delta za9 at ho;refine fn fun _ _=>?_;refine run 4 ?_;refine zai rfl (.n rfl) rfl (e:=.val (zez zg) none) (fun z fr h s=>⟨_,rfl,zci⟩) ?_;refine gcl ho fun y1 hy1 ho=>?_;obtain ⟨c8,hc8,ho⟩:=bnd ho;refine run 8 ?_;refine gcx c8 [2,12] [] (fun t=>(.normal,fun _=>([(40,vB t)],[]))) ?_ fun _=>?_
 ·exact we hc8
 ·refine gct ho (fun ha ho=>?_) fun ha ho=>?_
  ·refine run 2 ?_;refine zai rfl (.n rfl) rfl (e:=.val (zez zg) none) (fun z fr h s=>⟨_,rfl,zci⟩) ?_;exact we ho
  ·obtain ⟨xa,hc,ho⟩:=bnd ho;refine run 10 ?_;cases ho;refine zn1 (ziC (n:=10) rfl) ?_;exact zfx (zdh (.inr rfl) (.v rfl (.v rfl .n)) (by decide))⟩
instance i110 {r_0 side_1 factor_2}:FI ktab 110 (zaF r_0 side_1 factor_2) [.val (zaQ zg) r_0,vI side_1,vI factor_2] (fun out=>[.row (zj .i64) out]):=⟨fun out ho=>by
 delta zaF at ho;refine fn fun _ _=>?_;refine gnr (zj .i64) ?_;obtain ⟨x1,hx1,ho⟩:=bnd ho;refine run 7 ?_;refine zbf ia' hx1 (.n rfl) rfl rfl (.t rfl) (.t rfl) ?_;obtain ⟨x2,hx2,ho⟩:=bnd ho;refine gmk fun v3=>?_;obtain ⟨ta,ha,ho⟩:=bnd ho;refine glp ha [0,1,2,7] [] [0] (fun s g=>([(8,vI s.1)],[(v3,.row (zj .i64) s.2)])) (fun b=>(.exit 0,fun g=>([],[(v3,.row (zj .i64) b)]))) [] (fun sa ga _ ho=>?_) fun gb=>?_
 ·refine gct ho (fun hc ho=>?_) fun hc ho=>?_
  ·refine run 3 ?_;refine zaN [6] (by kernel_rfl) ?_;obtain ⟨xa,he,xb,hd,ho⟩:=zfX ho;refine run 11 ?_;refine zbf ia' hd (.n rfl) rfl rfl (.t rfl) (.t rfl) ?_;obtain ⟨xd,hf,xe,hg,ho⟩:=zfX ho;refine gcl ho fun ya hh ho=>?_;obtain ⟨xf,hi,xg,hj,xh,hk,ho⟩:=zn2 ho;exact lv [] [0] ho
  ·exact lv [] [0] ho
 ·exact we ho⟩
instance i77 {r_0 side_1 headway_2 offset_3 depart_4 factor_5 gap_6}:FI ktab 77 (zar r_0 side_1 headway_2 offset_3 depart_4 factor_5 gap_6) [.val (zaQ zg) r_0,vI side_1,vI headway_2,vI offset_3,vI depart_4,vI factor_5,vI gap_6] (fun out=>[wB out]):=⟨fun out ho=>by
 delta zar at ho;refine fn fun _ _=>?_;refine gcl ho fun y1 hy1 ho=>?_;intro v2;show zq ..;refine gcl ho fun y3 hy3 ho=>?_;obtain ⟨ta,ha,ho⟩:=bnd ho;refine gl2 ha ho [0,1,2,4,6,16,32,33] [] [0] (fun s g=>([(17,vI s.1),(34,vI s.2)],[(v2,.row (zj .i64) y1)])) (fun b=>(.exit 0,fun g=>([],[]))) (fun b=>(.ret,fun g=>([(14,vB b)],[]))) [] (fun sa gb _ ho=>?_) (fun ba ho ga=>?_) fun bb ho ga=>?_
 ·refine gct ho (fun hc ho=>?_) fun hc ho=>?_
  ·obtain ⟨xa,hi,xb,hd,ho⟩:=zfX ho;refine run 22 ?_;refine zbf ia' hd (.n rfl) rfl rfl (.t rfl) (.t rfl) ?_;obtain ⟨xd,hj,ho⟩:=bnd ho;refine gcl ho fun ya hk ho=>?_;refine wbr ho (fun he ho=>?_) fun he ho=>?_
   ·refine gk ?_;exact we ho
   ·refine gct ho (fun hf ho=>?_) fun hf ho=>?_
    ·exact we ho
    ·obtain ⟨xe,hl,ho⟩:=bnd ho;refine wbr ho (fun hg ho=>?_) fun hg ho=>?_
     ·refine gct ho (fun hh ho=>?_) fun hh ho=>?_
      ·exact we ho
      ·exact lv [] [0] ho
     ·refine gk ?_;exact lv [] [0] ho
  ·exact lv [] [] ho
 ·exact we ho
 ·exact rv ho⟩
instance i36 {p_0 s_1 line_2 home_3 from_4 factor_5 gap_6}:FI ktab 36 (zaV p_0 s_1 line_2 home_3 from_4 factor_5 gap_6) [.val zaf p_0,.val zac s_1,vI line_2,vB home_3,vI from_4,vI factor_5,vI gap_6] (fun out=>[wI out.1,wI out.2]):=⟨fun out ho=>by
 delta zaV at ho;refine fn fun _ _=>?_;refine gcl ho fun y1 hy1 ho=>?_;obtain ⟨c4,hc4,ho⟩:=bnd ho;refine run 8 ?_;refine gcx c4 [2,3,4,5,6,8,16] [] (fun t=>(.normal,fun _=>([(34,vB t)],[]))) ?_ fun _=>?_
 ·exact we hc4
 ·refine gct ho (fun hq7 ho=>?_) fun hq7 ho=>?_
  ·exact we ho
  ·obtain ⟨ta,ha,ho⟩:=bnd ho;refine gl2 ha ho [2,3,4,5,6,8,16] [] [] (fun s g=>([(18,vI s)],[])) (fun b=>(.exit 0,fun g=>([],[]))) (fun b=>(.ret,fun g=>([(14,vI b.1),(15,vI b.2)],[]))) [] (fun sa gb _ ho=>?_) (fun ba ho ga=>?_) fun bb ho ga=>?_
   ·refine gct ho (fun hc ho=>?_) fun hc ho=>?_
    ·refine gcl ho fun ya he ho=>?_;obtain ⟨xa,hf,xb,hg,pa,hd,ho⟩:=zn2 ho;refine run 13 ?_;refine zgz (zcc (n:=42) hd rfl) ?_;exact we ho
    ·exact lv [] [] ho
   ·exact we ho
   ·exact rv ho⟩
instance i46 {p_0 s_1 line_2 home_3 depart_4 factor_5 gap_6}:FI ktab 46 (zcI p_0 s_1 line_2 home_3 depart_4 factor_5 gap_6) [.val zaf p_0,.val zac s_1,vI line_2,vB home_3,vI depart_4,vI factor_5,vI gap_6] (fun out=>[wB out.1,wI out.2]):=⟨fun out ho=>by
 delta zcI at ho;refine fn fun _ _=>?_;refine gcl ho fun y1 hy1 ho=>?_;obtain ⟨c4,hc4,ho⟩:=bnd ho;refine run 8 ?_;refine gcx c4 [2,3,4,5,6,8,16] [] (fun t=>(.normal,fun _=>([(33,vB t)],[]))) ?_ fun _=>?_
 ·exact we hc4
 ·refine gct ho (fun hq7 ho=>?_) fun hq7 ho=>?_
  ·exact we ho
  ·refine gcl ho fun ya hc ho=>?_;obtain ⟨xa,hd,xb,he,pa,ha,ho⟩:=zn2 ho;refine run 13 ?_;refine zgz (zcc (n:=34) ha rfl) ?_;exact we ho⟩
instance i89 {x_0 o_1 base_2 h_3 depart_4 gap_5}:FI ktab 89 (zcX x_0 o_1 base_2 h_3 depart_4 gap_5) [.val (zf (zj .i64)) x_0,.val (zf (zj .i64)) o_1,vI base_2,vI h_3,vI depart_4,vI gap_5] (fun out=>[wB out]):=⟨fun out ho=>by
 delta zcX at ho;refine fn fun _ _=>?_;obtain ⟨ta,ha,ho⟩:=bnd ho;refine gl2 ha ho [0,1,2,3,4,5] [] [] (fun s g=>([(13,vI s.1),(14,vI s.2)],[])) (fun b=>(.exit 0,fun g=>([],[]))) (fun b=>(.ret,fun g=>([(12,vB b)],[]))) [] (fun sa gb _ ho=>?_) (fun ba ho ga=>?_) fun bb ho ga=>?_
 ·refine gct ho (fun hc ho=>?_) fun hc ho=>?_
  ·obtain ⟨xa,hg,xb,hh,ho⟩:=zfX ho;refine gcl ho fun ya hi ho=>?_;refine wbr ho (fun hd ho=>?_) fun hd ho=>?_
   ·refine gk ?_;exact we ho
   ·refine gct ho (fun he ho=>?_) fun he ho=>?_
    ·exact we ho
    ·obtain ⟨xd,hj,xe,hk,xf,hl,ho⟩:=zn2 ho;refine wbr ho (fun hf ho=>?_) fun hf ho=>?_
     ·refine run 28 ?_;exact we ho
     ·refine gk ?_;exact we ho
  ·exact lv [] [] ho
 ·exact we ho
 ·exact rv ho⟩
instance i90 {p_0 l_1 home_2 factor_3}:FI ktab 90 (zdB p_0 l_1 home_2 factor_3) [.val zaf p_0,.val zbK l_1,vB home_2,vI factor_3] (fun out=>[.row (zj .i64) out]):=⟨fun out ho=>by
 delta zdB at ho;refine fn fun _ _=>?_;refine gnr (zj .i64) ?_;refine gcl ho fun y1 hy1 ho=>?_;refine gal fun b2=>?_;refine gfz 1 zcF y1 0 [9] ?_;refine gcl ho fun y3 hy3 ho=>?_;intro v4;show zq ..;refine run 4 ?_;refine zwf (R:=(zj .i64)) is' iy' (.n rfl) rfl rfl (.c (.i (by decide) (by decide)) .n) rfl (by decide) ?_;intro v5;obtain ⟨ta,ha,ho⟩:=bnd ho;refine glp ha [3,9,10] [] [1,0] (fun s g=>([(11,.raw (gh g 0)),(12,vI s.2)],[(v4,.row (zj .i64) y3),((gh g 0),.row (zj .i64) s.1)])) (fun b=>(.exit 0,fun g=>([(11,.raw (gh g 0))],[((gh g 0),.row (zj .i64) b)]))) [v5] (fun sa ga _ ho=>?_) fun gb=>?_
 ·refine gct ho (fun hc ho=>?_) fun hc ho=>?_
  ·refine run 3 ?_;refine zaN [4,8] (by kernel_rfl) ?_;obtain ⟨xa,hd,xb,he,xd,hf,ho⟩:=zn2 ho;obtain ⟨xe,hg,xf,hh,ho⟩:=zfX ho;refine gap fun va=>?_;exact lv [va] [1,0] ho
  ·exact lv [(gh ga 0)] [1] ho
 ·exact we ho⟩
instance i47 {p_0 s_1 line_2 home_3 depart_4 factor_5 gap_6}:FI ktab 47 (zeZ p_0 s_1 line_2 home_3 depart_4 factor_5 gap_6) [.val zaf p_0,.val zac s_1,vI line_2,vB home_3,vI depart_4,vI factor_5,vI gap_6] (fun out=>[wB out]):=⟨fun out ho=>by
 delta zeZ at ho;refine fn fun _ _=>?_;obtain ⟨x1,hx1,ho⟩:=bnd ho;refine gal fun b2=>?_;refine gfz 1 zbK x1 0 [15] ?_;refine gcl ho fun ya ha ho=>?_;intro va;show zq ..;refine gcl ho fun yb hc ho=>?_;intro vb;exact we ho⟩
instance i48 {p_0 s_1 line_2 home_3 from_4 factor_5 gap_6}:FI ktab 48 (ze0 p_0 s_1 line_2 home_3 from_4 factor_5 gap_6) [.val zaf p_0,.val zac s_1,vI line_2,vB home_3,vI from_4,vI factor_5,vI gap_6] (fun out=>[wI out.1,wB out.2]):=⟨fun out ho=>by
 delta ze0 at ho;refine fn fun _ _=>?_;obtain ⟨x1,hx1,ho⟩:=bnd ho;refine gal fun b2=>?_;refine gfz 1 zbK x1 0 [16] ?_;refine gcl ho fun y8 hy8 ho=>?_;intro v9;show zq ..;refine gcl ho fun ya he ho=>?_;intro va;show zq ..;refine gcl ho fun yb hf ho=>?_;obtain ⟨ta,ha,ho⟩:=bnd ho;refine gl2 ha ho [2,4,6,8,17,18,19] [] [0,1] (fun s g=>([(20,vI s)],[(va,.row (zj .i64) ya),(v9,.row (zj .i64) y8)])) (fun b=>(.exit 0,fun g=>([],[]))) (fun b=>(.ret,fun g=>([(14,vI b.1),(15,vB b.2)],[]))) [] (fun sa gb _ ho=>?_) (fun ba ho ga=>?_) fun bb ho ga=>?_
 ·refine gct ho (fun hc ho=>?_) fun hc ho=>?_
  ·obtain ⟨xa,hg,ho⟩:=bnd ho;refine gcl ho fun yc hh ho=>?_;refine gct ho (fun hd ho=>?_) fun hd ho=>?_
   ·exact we ho
   ·exact lv [] [0,1] ho
  ·exact lv [] [] ho
 ·exact we ho
 ·exact rv ho⟩
instance i10 {p_0 s_1 line_2 home_3 from_4 factor_5 gap_6}:FI ktab 10 (zb4 p_0 s_1 line_2 home_3 from_4 factor_5 gap_6) [.val zaf p_0,.val zac s_1,vI line_2,vB home_3,vI from_4,vI factor_5,vI gap_6] (fun out=>[wB out]):=⟨fun out ho=>by
 delta zb4 at ho;refine fn fun _ _=>?_;refine gcl ho fun y1 hy1 ho=>?_;refine gct ho (fun hq2 ho=>?_) fun hq2 ho=>?_
 ·exact we ho
 ·refine gcl ho fun y4 hy4 ho=>?_;refine gcl ho fun y5 hy5 ho=>?_;obtain ⟨ca,ha,ho⟩:=bnd ho;refine run 8 ?_;refine gcx ca [2,3,4,5,6,7,8,15,16,17,18] [] (fun t=>(.normal,fun _=>([(86,vB t)],[]))) ?_ fun _=>?_
  ·exact we ha
  ·refine gct ho (fun hc ho=>?_) fun hc ho=>?_
   ·obtain ⟨cc,hd,ho⟩:=bnd ho;refine run 1 ?_;refine gcx cc [] [] (fun t=>(.normal,fun _=>([(14,vB t)],[]))) ?_ fun _=>?_
    ·exact we hd
    ·exact rv ho
   ·obtain ⟨cd,he,ho⟩:=bnd ho;refine run 3 ?_;refine gcx cd [2,3,4,5,6,7,8,15,16] [] (fun t=>(.normal,fun _=>([(117,vB t)],[]))) ?_ fun _=>?_
    ·exact we he
    ·refine gct ho (fun hf ho=>?_) fun hf ho=>?_
     ·exact we ho
     ·refine gct ho (fun hg ho=>?_) fun hg ho=>?_
      ·obtain ⟨ce,hh,ho⟩:=bnd ho;refine run 1 ?_;refine gcx ce [] [] (fun t=>(.normal,fun _=>([(14,vB t)],[]))) ?_ fun _=>?_
       ·exact we hh
       ·exact rv ho
      ·refine gcl ho fun ya hl ho=>?_;refine gct ho (fun hi ho=>?_) fun hi ho=>?_
       ·obtain ⟨cf,hj,ho⟩:=bnd ho;refine run 1 ?_;refine gcx cf [] [] (fun t=>(.normal,fun _=>([(14,vB t)],[]))) ?_ fun _=>?_
        ·exact we hj
        ·exact rv ho
       ·obtain ⟨cg,hk,ho⟩:=bnd ho;refine run 2 ?_;refine gcx cg [] [] (fun t=>(.normal,fun _=>([(14,vB t)],[]))) ?_ fun _=>?_
        ·exact we hk
        ·exact rv ho⟩
end Go.Ai.TabYtppebpagcocogaaGreat
