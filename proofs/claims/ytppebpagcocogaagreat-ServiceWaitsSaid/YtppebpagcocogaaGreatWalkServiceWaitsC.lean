/- Written by program: walks through functions. -/
import Derived.Test.YtppebpagcocogaaGreatS11
import Derived.Test.YtppebpagcocogaaGreatS20
import Derived.Test.YtppebpagcocogaaGreatS16
import Derived.Test.YtppebpagcocogaaGreatS19
import Derived.Test.YtppebpagcocogaaGreatS17
import Derived.Test.YtppebpagcocogaaGreatS18
set_option linter.unusedSimpArgs false
set_option linter.unusedVariables false
set_option linter.unusedSectionVars false
namespace Go.Ai.TabYtppebpagcocogaaGreat
open Go Go.Ai Go.Ai.Sx Go.Proofs
attribute [local irreducible] zq
set_option maxRecDepth 100000
set_option maxHeartbeats 4000000
instance i68 {p_0 l_1 home_2}:FI ktab 68 (zas p_0 l_1 home_2) [.val zaf p_0,.val zbK l_1,vB home_2] (fun out=>[wI out]):=⟨fun out ho=>by
 delta zas at ho;refine fn fun _ _=>?_;refine gcl ho fun y1 hy1 ho=>?_;intro v2;exact we ho⟩
instance i25 {p_0 l_1}:FI ktab 25 (zcy p_0 l_1) [.val zaf p_0,.val zbK l_1] (fun out=>[wI out]):=fw
instance i106 {h_0 p_1}:FI ktab 106 (zdR h_0 p_1) [vI h_0,.val (zaQ (zf (zj .i64))) p_1] (fun out=>[wB out]):=fw
instance i70 {l_0}:FI ktab 70 (zc7 l_0) [.val (zf (zj .i64)) l_0] (fun out=>[wB out]):=⟨fun out ho=>by
 delta zc7 at ho;refine fn fun _ _=>?_;refine run 8 ?_;refine zgM (X:=Int) (Y:=Bool) (fun x=>[.val (zj .i64) x]) (fun y=>[.val zab y]) (f:=(fun x=>zdR x l_0)) (fun x y hf=>i106.ok _ hf) rfl (.n rfl) rfl rfl .n (.c (.t rfl) .n) ?_;exact we ho⟩
instance i71 {all_0 l_1}:FI ktab 71 (zbp all_0 l_1) [.val (zf (zaQ zg)) all_0,.val (zf zL) l_1] (fun out=>[wB out]):=⟨fun out ho=>by
 delta zbp at ho;refine fn fun _ _=>?_;obtain ⟨ta,ha,ho⟩:=bnd ho;refine gl2 ha ho [0,1,9,10] [] [] (fun s g=>([(11,vI s)],[])) (fun b=>(.exit 0,fun g=>([],[]))) (fun b=>(.ret,fun g=>([(4,vB b)],[]))) [] (fun sa gb _ ho=>?_) (fun ba ho ga=>?_) fun bb ho ga=>?_
 ·refine gct ho (fun hc ho=>?_) fun hc ho=>?_
  ·obtain ⟨xa,hk,ho⟩:=bnd ho;refine gal fun bc=>?_;refine gfz 1 zL xa 0 [6] ?_;refine gcl ho fun ya hl ho=>?_;refine wbr ho (fun hd ho=>?_) fun hd ho=>?_
   ·refine gk ?_;exact we ho
   ·refine gcl ho fun yb hm ho=>?_;refine wbr ho (fun he ho=>?_) fun he ho=>?_
    ·refine gk ?_;exact we ho
    ·refine gcl ho fun yc hn ho=>?_;refine wbr ho (fun hf ho=>?_) fun hf ho=>?_
     ·refine gk ?_;exact we ho
     ·refine gct ho (fun hg ho=>?_) fun hg ho=>?_
      ·exact we ho
      ·obtain ⟨xb,hp,ho⟩:=bnd ho;refine gcl ho fun yd hr ho=>?_;obtain ⟨xd,hh,ho⟩:=bnd ho;refine run 2 ?_;refine zbf ia' hh (.n rfl) rfl rfl (.t rfl) (.t rfl) ?_;obtain ⟨xe,hs,ho⟩:=bnd ho;refine gcl ho fun ye ht ho=>?_;obtain ⟨xf,hi,ho⟩:=bnd ho;refine run 2 ?_;refine zbf ia' hi (.n rfl) rfl rfl (.t rfl) (.t rfl) ?_;refine gcl ho fun yf hu ho=>?_;refine wbr ho (fun hj ho=>?_) fun hj ho=>?_
       ·refine gk ?_;exact we ho
       ·exact we ho
  ·exact lv [] [] ho
 ·exact we ho
 ·exact rv ho⟩
instance i107 {r_0 side_1 headway_2 offset_3}:FI ktab 107 (z4 r_0 side_1 headway_2 offset_3) [.val (zaQ zg) r_0,vI side_1,vI headway_2,vI offset_3] (fun out=>[wI out]):=fw
instance i108 {n_0 h_1}:FI ktab 108 (zat n_0 h_1) [vI n_0,vI h_1] (fun out=>[wI out]):=fw
instance i72 {all_0 headway_1 offsets_2 c_3}:FI ktab 72 (zc8 all_0 headway_1 offsets_2 c_3) [.val (zf (zaQ zg)) all_0,vI headway_1,.val (zf (zj .i64)) offsets_2,.val zL c_3] (fun out=>[wI out]):=⟨fun out ho=>by
 delta zc8 at ho;refine fn fun _ _=>?_;obtain ⟨x3,hx3,x4,hx4,ho⟩:=zfX ho;refine gcl ho fun y7 hy7 ho=>?_;refine gcl ho fun y8 hy8 ho=>?_;obtain ⟨xa,hd,ho⟩:=bnd ho;refine gcl ho fun ya he ho=>?_;obtain ⟨xb,ha,ho⟩:=bnd ho;refine run 4 ?_;refine zbf ia' ha (.n rfl) rfl rfl (.t rfl) (.t rfl) ?_;obtain ⟨xd,hf,ho⟩:=bnd ho;refine gcl ho fun yb hg ho=>?_;obtain ⟨xe,hh,xf,hi,xg,hj,ho⟩:=zn2 ho;refine gcl ho fun yc hk ho=>?_;obtain ⟨xh,hc,ho⟩:=bnd ho;refine run 4 ?_;refine zbf ia' hc (.n rfl) rfl rfl (.t rfl) (.t rfl) ?_;exact we ho⟩
instance i29 {p_0 s_1 c_2}:FI ktab 29 (zcH p_0 s_1 c_2) [.val zaf p_0,.val zac s_1,.val zL c_2] (fun out=>[wI out.1,wI out.2]):=⟨fun out ho=>by
 delta zcH at ho;refine fn fun _ _=>?_;refine gcl ho fun y1 hy1 ho=>?_;obtain ⟨c6,hc6,ho⟩:=bnd ho;refine run 8 ?_;refine gcx c6 [4,5,8] [] (fun t=>(.normal,fun _=>([(30,vB t)],[]))) ?_ fun _=>?_
 ·exact we hc6
 ·exact we ho⟩
instance i109 {s_0 f_1}:FI ktab 109 (zV s_0 f_1) [.val (zf zL) s_0,.val (rFn ktab (Connection) (Bool) (fun x=>[.val zL (x)]) (fun y=>[.val zab (y)])) f_1] (fun out=>[wI out]):=⟨fun out ho=>by
 delta zV at ho;refine fn fun _ _=>?_;obtain ⟨ta,ha,ho⟩:=bnd ho;refine gl2 ha ho [0,1,7] [] [] (fun s g=>([(8,vI s)],[])) (fun b=>(.exit 0,fun g=>([],[]))) (fun b=>(.ret,fun g=>([(4,vI b)],[]))) [] (fun s5 g6 _ ho=>?_) (fun ba ho ga=>?_) fun bb ho ga=>?_
 ·refine gct ho (fun hq7 ho=>?_) fun hq7 ho=>?_
  ·obtain ⟨x8,hx8,y9,hy9,ho⟩:=zfX ho;refine gcv hy9 ?_;exact we ho
  ·exact lv [] [] ho
 ·exact we ho
 ·exact rv ho⟩
instance i73 {s_0 f_1}:FI ktab 73 (zaa s_0 f_1) [.val (zf zL) s_0,.val (rFn ktab (Connection) (Bool) (fun x=>[.val zL (x)]) (fun y=>[.val zab (y)])) f_1] (fun out=>[wB out]):=fw
instance i74 {c_0 p_1 p_2}:FI ktab 74 (zcQ c_0 p_1 p_2) [.val zL c_0,.val (zaQ (zf (zaQ zg))) p_1,.val (zaQ zac) p_2] (fun out=>[wB out]):=fw
instance i30 {p_0 s_1 l_2}:FI ktab 30 (zcl p_0 s_1 l_2) [.val zaf p_0,.val zac s_1,.val (zf zL) l_2] (fun out=>[wB out.1,wI out.2]):=⟨fun out ho=>by
 delta zcl at ho;refine fn fun _ _=>?_;refine gcl ho fun y1 hy1 ho=>?_;refine gal fun b2=>?_;refine run 1 ?_;refine zgz (zey (R:=(zf (zaQ zg))) (a:=y1.1) 0 [8] (zE rfl) rfl rfl ⟨rfl,trivial⟩) ?_;obtain ⟨c7,hc7,ho⟩:=bnd ho;refine run 4 ?_;refine gcx c7 [2,4,8] [] (fun t=>(.normal,fun _=>([(29,vB t)],[]))) ?_ fun _=>?_
 ·exact we hc7
 ·refine gct ho (fun ha ho=>?_) fun ha ho=>?_
  ·exact we ho
  ·refine run 4 ?_;refine zgM (X:=Connection) (Y:=Bool) (fun x=>[.val zL x]) (fun y=>[.val zab y]) (f:=(fun x=>zcQ x y1.1 s_1)) (fun x y hf=>i74.ok _ hf) rfl (.n rfl) rfl rfl .n (.c (.t rfl) (.c (.t rfl) .n)) ?_;exact we ho⟩
instance i31 {s_0}:FI ktab 31 (zeX s_0) [.val zac s_0] (fun out=>[wB out]):=⟨fun out ho=>by
 delta zeX at ho;refine fn fun _ _=>?_;obtain ⟨ta,ha,ho⟩:=bnd ho;refine gl2 ha ho [1] [] [] (fun s g=>([(3,vI s)],[])) (fun b=>(.exit 0,fun g=>([],[]))) (fun b=>(.ret,fun g=>([(2,vB b)],[]))) [] (fun s7 g8 _ ho=>?_) (fun ba ho ga=>?_) fun bb ho ga=>?_
 ·exact we ho
 ·exact we ho
 ·exact rv ho⟩
instance i32 {lines_0 c_1}:FI ktab 32 (zbl lines_0 c_1) [.val (zf zbK) lines_0,.val zL c_1] (fun out=>[wB out]):=⟨fun out ho=>by
 delta zbl at ho;refine fn fun _ _=>?_;obtain ⟨c7,hc7,ho⟩:=bnd ho;refine run 7 ?_;refine gcx c7 [0,3] [] (fun t=>(.normal,fun _=>([(33,vB t)],[]))) ?_ fun _=>?_
 ·exact we hc7
 ·refine gct ho (fun ha ho=>?_) fun ha ho=>?_
  ·exact we ho
  ·obtain ⟨ca,hc,ho⟩:=bnd ho;refine run 2 ?_;refine gcx ca [] [] (fun t=>(.normal,fun _=>([(4,vB t)],[]))) ?_ fun _=>?_
   ·exact we hc
   ·exact rv ho⟩
instance i39 {a_0 n_1}:FI ktab 39 (zaL a_0 n_1) [vI a_0,vI n_1] (fun out=>[wI out]):=fw
instance i78 {p_0 l_1 h_2}:FI ktab 78 (zcz p_0 l_1 h_2) [.val zaf p_0,.val zbK l_1,vI h_2] (fun out=>[wI out]):=fw
instance i38 {p_0 s_1 line_2 home_3}:FI ktab 38 (z8 p_0 s_1 line_2 home_3) [.val zaf p_0,.val zac s_1,vI line_2,vB home_3] (fun out=>[wI out]):=⟨fun out ho=>by
 delta z8 at ho;refine fn fun _ _=>?_;obtain ⟨x1,hx1,ho⟩:=bnd ho;refine gal fun b2=>?_;refine gfz 1 zbK x1 0 [9] ?_;exact we ho⟩
instance i75 {p_0 s_1 c_2}:FI ktab 75 (zek p_0 s_1 c_2) [.val zaf p_0,.val zac s_1,.val zL c_2] (fun out=>[wI out]):=⟨fun out ho=>by
 delta zek at ho;refine fn fun _ _=>?_;obtain ⟨x5,hx5,x6,hx6,ho⟩:=zfX ho;refine gal fun b7=>?_;refine gal fun b8=>?_;refine gfz 1 zbK x5 1 [7] ?_;refine gfz 1 zbK x6 0 [8] ?_;refine run 2 ?_;refine zaN [15] (by kernel_rfl) ?_;refine gcl ho fun ya ha ho=>?_;refine gcl ho fun yb hc ho=>?_;intro va;show zq ..;obtain ⟨xa,hd,ho⟩:=bnd ho;refine gcl ho fun yc he ho=>?_;obtain ⟨xb,hf,ho⟩:=bnd ho;refine run 9 ?_;refine zaN [15] (by kernel_rfl) ?_;refine gcl ho fun yd hg ho=>?_;refine gcl ho fun ye hh ho=>?_;intro vb;exact we ho⟩
instance i33 {p_0 s_1 c_2}:FI ktab 33 (zd3 p_0 s_1 c_2) [.val zaf p_0,.val zac s_1,.val zL c_2] (fun out=>[wI out]):=fw
instance i34 {lines_0 l_1}:FI ktab 34 (zbH lines_0 l_1) [.val (zf zbK) lines_0,.val (zf zL) l_1] (fun out=>[wB out]):=⟨fun out ho=>by
 delta zbH at ho;refine fn fun _ _=>?_;obtain ⟨ta,ha,ho⟩:=bnd ho;refine gl2 ha ho [0,1] [] [] (fun s g=>([(5,vI s)],[])) (fun b=>(.exit 0,fun g=>([],[]))) (fun b=>(.ret,fun g=>([(4,vB b)],[]))) [] (fun s5 g6 _ ho=>?_) (fun ba ho ga=>?_) fun bb ho ga=>?_
 ·exact we ho
 ·exact we ho
 ·exact rv ho⟩
instance i35 {p_0 s_1 l_2}:FI ktab 35 (zdA p_0 s_1 l_2) [.val zaf p_0,.val zac s_1,.val (zf zL) l_2] (fun out=>[wB out]):=⟨fun out ho=>by
 delta zdA at ho;refine fn fun _ _=>?_;obtain ⟨ta,ha,ho⟩:=bnd ho;refine gl2 ha ho [2,3,4] [] [] (fun s g=>([(7,vI s)],[])) (fun b=>(.exit 0,fun g=>([],[]))) (fun b=>(.ret,fun g=>([(6,vB b)],[]))) [] (fun s9 gb _ ho=>?_) (fun ba ho ga=>?_) fun bb ho ga=>?_
 ·exact we ho
 ·exact we ho
 ·exact rv ho⟩
instance i5 {p_0 s_1 l_2}:FI ktab 5 (zb2 p_0 s_1 l_2) [.val zaf p_0,.val zac s_1,.val (zf zL) l_2] (fun out=>[wB out]):=⟨fun out ho=>by
 delta zb2 at ho;refine fn fun _ _=>?_;obtain ⟨c7,hc7,ho⟩:=bnd ho;refine run 8 ?_;refine gcx c7 [2,3,4] [] (fun t=>(.normal,fun _=>([(35,vB t)],[]))) ?_ fun _=>?_
 ·exact we hc7
 ·refine gct ho (fun ha ho=>?_) fun ha ho=>?_
  ·exact we ho
  ·obtain ⟨xa,ht,ho⟩:=bnd ho;refine gcl ho fun ya hu ho=>?_;refine gcl ho fun yb hv ho=>?_;obtain ⟨ca,hc,ho⟩:=bnd ho;refine run 7 ?_;refine gcx ca [2,3,4,7,8,9,10] [] (fun t=>(.normal,fun _=>([(11,vB t)],[]))) ?_ fun _=>?_
   ·exact we hc
   ·obtain ⟨cc,hd,ho⟩:=bnd ho;refine run 2 ?_;refine gcx cc [2,3,4,7,8,9,10,11] [] (fun t=>(.normal,fun _=>([(70,vB t)],[]))) ?_ fun _=>?_
    ·exact we hd
    ·refine gct ho (fun he ho=>?_) fun he ho=>?_
     ·obtain ⟨cd,hf,ho⟩:=bnd ho;refine run 1 ?_;refine gcx cd [2,3,4,9,10,11] [] (fun t=>(.normal,fun _=>([(76,vB t)],[]))) ?_ fun _=>?_
      ·exact we hf
      ·refine gct ho (fun hg ho=>?_) fun hg ho=>?_
       ·exact we ho
       ·obtain ⟨ce,hh,ho⟩:=bnd ho;refine run 3 ?_;refine gcx ce [2,3,4,9,10] [] (fun t=>(.normal,fun _=>([(97,vB t)],[]))) ?_ fun _=>?_
        ·exact we hh
        ·refine gct ho (fun hi ho=>?_) fun hi ho=>?_
         ·obtain ⟨cf,hj,ho⟩:=bnd ho;refine run 1 ?_;refine gcx cf [] [] (fun t=>(.normal,fun _=>([(6,vB t)],[]))) ?_ fun _=>?_
          ·exact we hj
          ·exact rv ho
         ·obtain ⟨cg,hk,ho⟩:=bnd ho;refine run 2 ?_;refine gcx cg [] [] (fun t=>(.normal,fun _=>([(6,vB t)],[]))) ?_ fun _=>?_
          ·exact we hk
          ·exact rv ho
     ·obtain ⟨ch,hl,ho⟩:=bnd ho;refine run 1 ?_;refine gcx ch [2,3,4,9,10,11] [] (fun t=>(.normal,fun _=>([(88,vB t)],[]))) ?_ fun _=>?_
      ·exact we hl
      ·refine gct ho (fun hm ho=>?_) fun hm ho=>?_
       ·exact we ho
       ·obtain ⟨ci,hn,ho⟩:=bnd ho;refine run 3 ?_;refine gcx ci [2,3,4,9,10] [] (fun t=>(.normal,fun _=>([(97,vB t)],[]))) ?_ fun _=>?_
        ·exact we hn
        ·refine gct ho (fun hp ho=>?_) fun hp ho=>?_
         ·obtain ⟨cj,hr,ho⟩:=bnd ho;refine run 1 ?_;refine gcx cj [] [] (fun t=>(.normal,fun _=>([(6,vB t)],[]))) ?_ fun _=>?_
          ·exact we hr
          ·exact rv ho
         ·obtain ⟨ck,hs,ho⟩:=bnd ho;refine run 2 ?_;refine gcx ck [] [] (fun t=>(.normal,fun _=>([(6,vB t)],[]))) ?_ fun _=>?_
          ·exact we hs
          ·exact rv ho⟩
end Go.Ai.TabYtppebpagcocogaaGreat
