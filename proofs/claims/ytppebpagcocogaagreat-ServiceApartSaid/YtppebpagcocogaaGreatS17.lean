/- Written by program: walks through functions. -/
import Derived.Test.YtppebpagcocogaaGreatS11
set_option linter.unusedSimpArgs false
set_option linter.unusedVariables false
set_option linter.unusedSectionVars false
namespace Go.Ai.TabYtppebpagcocogaaGreat
open Go Go.Ai Go.Ai.Sx Go.Proofs
attribute [local irreducible] zq
set_option maxRecDepth 100000
set_option maxHeartbeats 4000000
instance i57 {x_0 low_1 high_2}:FI ktab 57 (zl x_0 low_1 high_2) [vI x_0,vI low_1,vI high_2] (fun out=>[wB out]):=⟨fun out ho=>by
 delta zl at ho;refine fn fun _ _=>?_;obtain ⟨c2,hc2,ho⟩:=bnd ho;refine run 5 ?_;refine gcx c2 [] [] (fun t=>(.normal,fun _=>([(6,vB t)],[]))) ?_ fun _=>?_
 ·exact we hc2
 ·exact rv ho⟩
instance i123 {x_0 low_1 high_2}:FI ktab 123 (zR x_0 low_1 high_2) [vI x_0,vI low_1,vI high_2] (fun out=>[wB out]):=⟨fun out ho=>by
 delta zR at ho;refine fn fun _ _=>?_;obtain ⟨c2,hc2,ho⟩:=bnd ho;refine run 5 ?_;refine gcx c2 [] [] (fun t=>(.normal,fun _=>([(6,vB t)],[]))) ?_ fun _=>?_
 ·exact we hc2
 ·exact rv ho⟩
instance i147 {s_0 f_1}:FI ktab 147 (zax s_0 f_1) [.val (zf zb7) s_0,.val (rFn ktab (zcp) (Bool) (fun x=>[.val zb7 (x)]) (fun y=>[.val zab (y)])) f_1] (fun out=>[wI out]):=⟨fun out ho=>by
 delta zax at ho;refine fn fun _ _=>?_;obtain ⟨ta,ha,ho⟩:=bnd ho;refine gl2 ha ho [0,1,7] [] [] (fun s g=>([(8,vI s)],[])) (fun b=>(.exit 0,fun g=>([],[]))) (fun b=>(.ret,fun g=>([(4,vI b)],[]))) [] (fun s5 g6 _ ho=>?_) (fun ba ho ga=>?_) fun bb ho ga=>?_
 ·refine gct ho (fun hq7 ho=>?_) fun hq7 ho=>?_
  ·obtain ⟨x8,hx8,y9,hy9,ho⟩:=zfX ho;refine gcv hy9 ?_;exact we ho
  ·exact lv [] [] ho
 ·exact we ho
 ·exact rv ho⟩
instance i124 {s_0 f_1}:FI ktab 124 (zan s_0 f_1) [.val (zf zb7) s_0,.val (rFn ktab (zcp) (Bool) (fun x=>[.val zb7 (x)]) (fun y=>[.val zab (y)])) f_1] (fun out=>[wB out]):=fw
instance i148 {s_0}:FI ktab 148 (zcT s_0) [.val zcE s_0] (fun out=>[wB out]):=⟨fun out ho=>by
 delta zcT at ho;refine fn fun _ _=>?_;obtain ⟨c4,hc4,ho⟩:=bnd ho;refine run 6 ?_;refine gcx c4 [] [] (fun t=>(.normal,fun _=>([(2,vB t)],[]))) ?_ fun _=>?_
 ·exact we hc4
 ·exact rv ho⟩
instance i149:FI ktab 149 (zfa) [] (fun out=>[.val (zjX 7 (zj .i64)) out]):=⟨fun out ho=>by
 delta zfa at ho;refine fn fun _ _=>?_;refine gal fun b1=>?_;refine run 3 ?_;refine znu (R:=(zj .i64)) (zc:=[.int .i64 0,.int .i64 0,.int .i64 0,.int .i64 0,.int .i64 0,.int .i64 0,.int .i64 0]) 1 0 ia' (by kernel_rfl) (by rfl) (fun _ j hj=>(match j,hj with | 0,_=>zint)) (.n rfl) rfl rfl (.c (.i (by decide) (by decide)) (.c (.i (by decide) (by decide)) (.c (.i (by decide) (by decide)) (.c (.i (by decide) (by decide)) (.c (.i (by decide) (by decide)) (.c (.i (by decide) (by decide)) .n)))))) (by rfl) ?_;refine zgN 0 ia' rfl (by rfl) (by decide) (.n rfl) rfl rfl (.t rfl) (.t rfl) (by rfl) ?_;refine run 1 ?_;cases ho; exact zfx (zdh (.inr rfl) (.a 0 ia' rfl rfl .n) (by decide))⟩
instance i126 {n_0}:FI ktab 126 (zeQ n_0) [.val zb7 n_0] (fun out=>[wB out]):=⟨fun out ho=>by
 delta zeQ at ho;refine fn fun _ _=>?_;obtain ⟨ca,ha,ho⟩:=bnd ho;refine run 7 ?_;refine gcx ca [1] [] (fun t=>(.normal,fun _=>([(26,vB t)],[]))) ?_ fun _=>?_
 ·exact we ha
 ·refine gct ho (fun hc ho=>?_) fun hc ho=>?_
  ·exact we ho
  ·obtain ⟨cc,hd,ho⟩:=bnd ho;refine run 3 ?_;refine gcx cc [1] [] (fun t=>(.normal,fun _=>([(34,vB t)],[]))) ?_ fun _=>?_
   ·exact we hd
   ·exact we ho⟩
instance i125 {n_0}:FI ktab 125 (zfz n_0) [.val zb7 n_0] (fun out=>[wB out]):=fw
instance i150 {s_0 f_1}:FI ktab 150 (zay s_0 f_1) [.val (zf zd4) s_0,.val (rFn ktab (Rail) (Bool) (fun x=>[.val zd4 (x)]) (fun y=>[.val zab (y)])) f_1] (fun out=>[wI out]):=⟨fun out ho=>by
 delta zay at ho;refine fn fun _ _=>?_;obtain ⟨ta,ha,ho⟩:=bnd ho;refine gl2 ha ho [0,1,7] [] [] (fun s g=>([(8,vI s)],[])) (fun b=>(.exit 0,fun g=>([],[]))) (fun b=>(.ret,fun g=>([(4,vI b)],[]))) [] (fun s5 g6 _ ho=>?_) (fun ba ho ga=>?_) fun bb ho ga=>?_
 ·refine gct ho (fun hq7 ho=>?_) fun hq7 ho=>?_
  ·obtain ⟨x8,hx8,y9,hy9,ho⟩:=zfX ho;refine gcv hy9 ?_;exact we ho
  ·exact lv [] [] ho
 ·exact we ho
 ·exact rv ho⟩
instance i127 {s_0 f_1}:FI ktab 127 (zao s_0 f_1) [.val (zf zd4) s_0,.val (rFn ktab (Rail) (Bool) (fun x=>[.val zd4 (x)]) (fun y=>[.val zab (y)])) f_1] (fun out=>[wB out]):=fw
instance i187 {n_1}:FI ktab 187 (zau n_1) [.raw .nilslice,vI n_1] (fun out=>[.row zcE out]):=⟨fun out ho=>by
 delta zau at ho;refine fn fun _ _=>?_;refine run 2 ?_;refine zeH (.n rfl) rfl rfl (.nil (R:=zcE)) ?_;refine gct ho (fun hq1 ho=>?_) fun hq1 ho=>?_
 ·refine run 1 ?_;cases ho
 ·refine run 6 ?_;refine zpl (et:=98) (by kernel_rfl) rfl (.n rfl) rfl rfl (.t rfl) ?_;refine run 1 ?_;refine zgz (znv zcE (n:=11) rfl) ?_;refine gct ho (fun hq2 ho=>?_) fun hq2 ho=>?_
  ·refine run 3 ?_;refine zpl (et:=98) (by kernel_rfl) rfl (.n rfl) rfl rfl (.t rfl) ?_;refine zwx (et:=98) (n:=2) (by kernel_rfl) (by kernel_rfl) (.n rfl) rfl rfl (.t rfl) (.t rfl) ?_;obtain ⟨x3,hx3,ho⟩:=bnd ho;refine run 1 ?_;refine zyC is' iy' iz' (by kernel_rfl) rfl hx3 rfl (.n rfl) rfl rfl (.t rfl) (.t rfl) rfl ?_;intro v4;refine run 1 ?_;refine zgz (znv zcE (n:=23) rfl) ?_;obtain ⟨x5,hx5,ho⟩:=bnd ho;refine run 1 ?_;refine zyD 0 is' (zww hx5) (.n rfl) rfl rfl (.t rfl) rfl (.t rfl) rfl ?_;intro v6;exact we ho
  ·refine run 6 ?_;cases ho;refine zn1 (zfw zcE) ?_;exact zfx (zdh (.inr rfl) (.r 0 rfl rfl .n) (by decide))⟩
instance i175 {slices_0}:FI ktab 175 (zap slices_0) [.val (zf (zf zcE)) slices_0] (fun out=>[.row zcE out]):=⟨fun out ho=>by
 delta zap at ho;refine fn fun _ _=>?_;refine gnr zcE ?_;obtain ⟨t9,ht9,ho⟩:=bnd ho;refine glp ht9 [0,9,10] [] [] (fun s g=>([(3,vI s.1),(11,vI s.2)],[])) (fun b=>(.exit 0,fun g=>([(3,vI b)],[]))) [] (fun s4 g5 _ ho=>?_) fun gb=>?_
 ·refine gct ho (fun hq6 ho=>?_) fun hq6 ho=>?_
  ·obtain ⟨x7,hx7,ho⟩:=bnd ho;refine gct ho (fun hq8 ho=>?_) fun hq8 ho=>?_
   ·refine run 1 ?_;cases ho
   ·exact we ho
  ·exact lv [] [] ho
 ·obtain ⟨ya,ha,ho⟩:=bnd ho;refine run 3 ?_;refine zj6 (i187.ok _ ha) (.r (zj5 zjl (zj5 zjl znm)) .n) rfl (.n rfl) rfl rfl rfl .f (.c (.o .nilr) (.c (.o (.t rfl)) .n)) ?_;intro va;show zq ..;obtain ⟨ta,hc,ho⟩:=bnd ho;refine glp hc [25,26] [] [0] (fun s g=>([(6,.raw (gh g 0)),(27,vI s.2)],[((gh g 0),.row zcE s.1)])) (fun b=>(.exit 2,fun g=>([(6,.raw (gh g 0))],[((gh g 0),.row zcE b)]))) [va] (fun sa ga _ ho=>?_) fun gc=>?_
  ·refine gct ho (fun hd ho=>?_) fun hd ho=>?_
   ·obtain ⟨xa,he,xb,hf,ho⟩:=zfX ho;refine gap fun vb=>?_;exact lv [vb] [0] ho
   ·exact lv [(gh ga 0)] [0] ho
  ·exact we ho⟩
instance i151 {p_0 r_1}:FI ktab 151 (zdZ p_0 r_1) [.val zaf p_0,.val zd4 r_1] (fun out=>[.row zcE out]):=⟨fun out ho=>by
 delta zdZ at ho;refine fn fun _ _=>?_;refine gnr zcE ?_;obtain ⟨x5,hx5,x6,hx6,ho⟩:=zfX ho;refine gcl ho fun y7 hy7 ho=>?_;intro v8;exact we ho⟩
instance i176 {n_0}:FI ktab 176 (zeR n_0) [vI n_0] (fun out=>[wI out]):=⟨fun out ho=>by
 delta zeR at ho;refine fn fun _ _=>?_;refine run 7 ?_;refine zz1 (by kernel_rfl) (by kernel_rfl) (.n rfl) rfl rfl (.t rfl) ?_;obtain ⟨x1,hx1,ho⟩:=bnd ho;refine zym (p:=zqq) rfl (zuf hx1) (fun _=>zpk) (.n rfl) rfl rfl rfl .f (zz0 (.t rfl)) ?_;obtain ⟨x2,hx2,ho⟩:=bnd ho;refine zz2 (by kernel_rfl) (by kernel_rfl) hx2 (.n rfl) rfl rfl (.t rfl) ?_;obtain ⟨t7,ht7,ho⟩:=bnd ho;refine glp ht7 [0] [] [] (fun s g=>([(3,vI s)],[])) (fun b=>(.exit 0,fun g=>([(3,vI b)],[]))) [] (fun s4 g5 _ ho=>?_) fun g8=>?_
 ·exact we ho
 ·obtain ⟨ta,ha,ho⟩:=bnd ho;refine glp ha [0] [] [] (fun s g=>([(3,vI s)],[])) (fun b=>(.exit 2,fun g=>([(3,vI b)],[]))) [] (fun sa ga _ ho=>?_) fun gb=>?_
  ·exact we ho
  ·exact we ho⟩
instance i152 {a_0 b_1}:FI ktab 152 (zcU a_0 b_1) [.val zcE a_0,.val zcE b_1] (fun out=>[wI out]):=fw
instance i129 {p_0 r_1}:FI ktab 129 (zeS p_0 r_1) [.val zaf p_0,.val zd4 r_1] (fun out=>[wB out]):=⟨fun out ho=>by
 delta zeS at ho;refine fn fun _ _=>?_;obtain ⟨c9,hc9,ho⟩:=bnd ho;refine run 8 ?_;refine gcx c9 [2,3] [] (fun t=>(.normal,fun _=>([(43,vB t)],[]))) ?_ fun _=>?_
 ·exact we hc9
 ·refine gct ho (fun ha ho=>?_) fun ha ho=>?_
  ·exact we ho
  ·refine gcl ho fun ya hh ho=>?_;intro va;show zq ..;obtain ⟨ta,hc,ho⟩:=bnd ho;refine gl2 hc ho [5,47,48] [] [0] (fun s g=>([(49,vI s)],[(va,.row zcE ya)])) (fun b=>(.exit 0,fun g=>([],[]))) (fun b=>(.ret,fun g=>([(4,vB b)],[]))) [] (fun sa gb _ ho=>?_) (fun ba ho ga=>?_) fun bb ho ga=>?_
   ·refine gct ho (fun hd ho=>?_) fun hd ho=>?_
    ·obtain ⟨xa,hi,ho⟩:=bnd ho;refine gal fun bc=>?_;refine gfz 2 zcE xa 0 [7] ?_;refine run 2 ?_;refine zaN [11] (by kernel_rfl) ?_;refine gcl ho fun yb hj ho=>?_;refine wbr ho (fun he ho=>?_) fun he ho=>?_
     ·refine gk ?_;exact we ho
     ·refine wbr ho (fun hf ho=>?_) fun hf ho=>?_
      ·obtain ⟨xb,hk,ho⟩:=bnd ho;refine gcl ho fun yc hl ho=>?_;refine gcl ho fun yd hm ho=>?_;refine gct ho (fun hg ho=>?_) fun hg ho=>?_
       ·exact we ho
       ·exact lv [] [0] ho
      ·refine gk ?_;exact lv [] [0] ho
    ·exact lv [] [] ho
   ·exact we ho
   ·exact rv ho⟩
instance i128 {r_0 p_1}:FI ktab 128 (zee r_0 p_1) [.val zd4 r_0,.val (zaQ zaf) p_1] (fun out=>[wB out]):=fw
instance i130 {p_0 e_1}:FI ktab 130 (zcG p_0 e_1) [.val zaf p_0,.val zU e_1] (fun out=>[wI out]):=fw
instance i98 {p_0}:FI ktab 98 (zdx p_0) [.val zaf p_0] (fun out=>[wI out]):=⟨fun out ho=>by
 delta zdx at ho;refine fn fun _ _=>?_;obtain ⟨c4,hc4,ho⟩:=bnd ho;refine run 7 ?_;refine gcx c4 [1] [] (fun t=>(.normal,fun _=>([(19,vB t)],[]))) ?_ fun _=>?_
 ·exact we hc4
 ·refine gct ho (fun hq8 ho=>?_) fun hq8 ho=>?_
  ·exact we ho
  ·obtain ⟨ca,hd,ho⟩:=bnd ho;refine run 3 ?_;refine gcx ca [1] [] (fun t=>(.normal,fun _=>([(28,vB t)],[]))) ?_ fun _=>?_
   ·have ho:=hd;obtain ⟨ya,he,ho⟩:=bnd ho;refine run 3 ?_;refine zj6 (i124.ok _ he) (.v zj4 .n) rfl (.n rfl) rfl rfl rfl .f (.c (.o (.t rfl)) (.c (.o (.fv (zh5 (fun x y hf=>i125.ok _ hf) rfl))) .n)) ?_;show zq ..;refine wbr ho (fun ha ho=>?_) fun ha ho=>?_
    ·exact we ho
    ·refine run 3 ?_;refine zgM (X:=Rail) (Y:=Bool) (fun x=>[.val zd4 x]) (fun y=>[.val zab y]) (f:=(fun x=>zee x p_0)) (fun x y hf=>i128.ok _ hf) rfl (.g rfl rfl (gf0 ha)) rfl rfl .n (.c (.t rfl) .n) ?_;exact we ho
   ·refine gct ho (fun hg ho=>?_) fun hg ho=>?_
    ·exact we ho
    ·refine run 3 ?_;refine zrJ zab zwE rfl (.n rfl) rfl rfl ?_;intro ba;obtain ⟨ta,hh,ho⟩:=bnd ho;refine gl2 hh ho [1,31,32] [] [0] (fun s g=>([(3,.raw (.map ba)),(33,vI s.1)],[(.map ba,.mp zU zab s.2)])) (fun b=>(.exit 0,fun g=>([(3,.raw (.map ba))],[(.map ba,.mp zU zab b)]))) (fun b=>(.ret,fun g=>([(2,vI b)],[]))) [] (fun sa gc _ ho=>?_) (fun bb ho ga=>?_) fun bc ho ga=>?_
     ·refine gct ho (fun hi ho=>?_) fun hi ho=>?_
      ·obtain ⟨xa,hp,ho⟩:=bnd ho;refine gal fun bd=>?_;refine gfz 2 zb7 xa 0 [5] ?_;obtain ⟨tb,hj,ho⟩:=bnd ho;refine gl2 hj ho [1,3,4,31,32,33,39,40] [] [0] (fun s g=>([(41,vI s.1)],[(.map ba,.mp zU zab s.2)])) (fun b=>(.exit 2,fun g=>([],[(.map ba,.mp zU zab b)]))) (fun b=>(.ret,fun g=>([(2,vI b.1)],[]))) [] (fun sb gd _ ho=>?_) (fun be ho gb=>?_) fun bf ho gb=>?_
       ·refine gct ho (fun hk ho=>?_) fun hk ho=>?_
        ·obtain ⟨xb,hr,ho⟩:=bnd ho;refine gal fun bg=>?_;refine gfz 1 zU xb 0 [7] ?_;refine gcl ho fun yb hs ho=>?_;refine wbr ho (fun hc ho=>?_) fun hc ho=>?_
         ·refine gk ?_;exact we ho
         ·refine run 4 ?_;refine zyA 0 rfl zwE iz' rfl (.g rfl rfl (gf0 hc)) rfl rfl (.t rfl) (.t rfl) ?_;refine wbr ho (fun hl ho=>?_) fun hl ho=>?_
          ·refine gk ?_;exact we ho
          ·refine gcl ho fun yc ht ho=>?_;refine gct ho (fun hm ho=>?_) fun hm ho=>?_
           ·exact we ho
           ·refine run 4 ?_;refine zpi 0 zwE (.inl rfl) rfl (.n rfl) rfl (.t rfl) (.t rfl) .b rfl ?_;exact lv [] [0] ho
        ·exact lv [] [0] ho
       ·exact lv [] [0] ho
       ·cases ho; exact id (lf [] [])
      ·exact lv [] [0] ho
     ·obtain ⟨xd,hn,ho⟩:=bnd ho;refine run 4 ?_;refine zyE (st:=199) (kt:=123) (et:=4) 0 rfl (by kernel_rfl) hn rfl rfl (.n rfl) rfl rfl (.t rfl) ?_;exact we ho
     ·exact rv ho⟩
instance i99 {l_0}:FI ktab 99 (zaj l_0) [.val zbK l_0] (fun out=>[.val (zjX 2 zcF) out]):=⟨fun out ho=>by
 delta zaj at ho;refine fn fun _ _=>?_;refine gal fun b1=>?_;refine run 7 ?_;refine zpg (R:=zcF) (zc:=[.nilslice,.nilslice,.nilslice,.nilslice,.nilslice,.nilslice]) ia' (by kernel_rfl) (by rfl) (.n rfl) rfl rfl (.c (.t rfl) (.c (.t rfl) .n)) (by rfl) ?_;refine zgN 0 ia' rfl (by rfl) (by decide) (.n rfl) rfl rfl (.t rfl) (.t rfl) (by rfl) ?_;refine run 1 ?_;cases ho; exact zfx (zdh (.inr rfl) (.a 0 ia' rfl rfl .n) (by decide))⟩
instance i153 {p_0}:FI ktab 153 (zd0 p_0) [.val zaf p_0] (fun out=>[.val (zez zag) out.1,wB out.2]):=⟨fun out ho=>by
 delta zd0 at ho;refine fn fun _ _=>?_;refine run 3 ?_;refine zai rfl (.n rfl) rfl (e:=.val (zez zag) none) (fun z fr h s=>⟨_,rfl,zci⟩) ?_;refine gcl ho fun y1 hy1 ho=>?_;refine gct ho (fun hq2 ho=>?_) fun hq2 ho=>?_
 ·refine run 2 ?_;refine zai rfl (.n rfl) rfl (e:=.val (zez zag) none) (fun z fr h s=>⟨_,rfl,zci⟩) ?_;exact we ho
 ·refine run 4 ?_;refine zrJ (zj .i64) zwF rfl (.n rfl) rfl rfl ?_;intro b3;refine zgz (zrK (n:=18) rfl) ?_;refine zl3 (R:=ziD) zz8 (.n rfl) rfl rfl rfl (.p (.t rfl) rfl (.z (fun _=>zrN) (.p (.t rfl) rfl (.n rfl)))) ?_;refine xbo fun b4=>?_;refine zgz (zhd (q:=2) 0 rfl rfl rfl) ?_;refine zgz (zfw (zj .i64)) ?_;refine zgz (zqp (q:=3) 1 rfl rfl rfl) ?_;obtain ⟨ta,ha,ho⟩:=bnd ho;refine glp ha [1,4,22,23] [2] [1,0,2] (fun s g=>([(24,vI s.1)],[(.ptr b4 0,.box [.val (zf zb7) p_0.1,.val (zf zd4) p_0.2.1,.raw (gh g 0),.raw (.map b3)]),((gh g 0),.row (zj .i64) s.2)])) (fun b=>(.exit 0,fun g=>([],[(.ptr b4 0,.box [.val (zf zb7) p_0.1,.val (zf zd4) p_0.2.1,.raw (gh g 0),.raw (.map b3)]),((gh g 0),.row (zj .i64) b)]))) [.nilslice] (fun sa ga _ ho=>?_) fun gb=>?_
  ·refine gct ho (fun hc ho=>?_) fun hc ho=>?_
   ·obtain ⟨xa,hj,ho⟩:=bnd ho;refine gal fun ba=>?_;refine gfz 1 zd4 xa 0 [6] ?_;refine gcl ho fun ya hk ho=>?_;intro va;show zq ..;obtain ⟨tc,hd,ho⟩:=bnd ho;refine glp hd [1,4,7,22,23,24] [1,2,3] [0,1,2,3] (fun s g=>([(8,vI s.1),(9,vI s.2)],[(va,.row zcE ya)])) (fun b=>(.exit 2,fun g=>([(8,vI b)],[]))) [] (fun sb gc _ ho=>?_) fun gd=>?_
    ·refine gct ho (fun he ho=>?_) fun he ho=>?_
     ·refine run 3 ?_;refine zaN [5,9] (by kernel_rfl) ?_;obtain ⟨xe,hl,xf,hm,ho⟩:=zfX ho;refine gcl ho fun yb hn ho=>?_;exact lv [] [0,1,2,3] ho
     ·exact lv [] [1,2,3] ho
    ·obtain ⟨xg,hp,ho⟩:=bnd ho;refine gap fun vb=>?_;refine run 2 ?_;refine zfy 1 0 (U27).sz rfl rfl (by exact Nat.le_of_ble_eq_true rfl) (.n rfl) rfl rfl (.t rfl) (.t rfl) (by rfl) ?_;exact lv [vb] [1,0,2] ho
   ·exact lv [(gh ga 0)] [0,1,2] ho
  ·obtain ⟨tb,hf,ho⟩:=bnd ho;refine glp hf [4,61,62] [0,1] [2,0,1] (fun s g=>([(63,vI s.1)],[(.map b3,.mp zU (zj .i64) s.2)])) (fun b=>(.exit 4,fun g=>([],[(.map b3,.mp zU (zj .i64) b)]))) [] (fun sc ge _ ho=>?_) fun gf=>?_
   ·refine gct ho (fun hg ho=>?_) fun hg ho=>?_
    ·obtain ⟨xb,hr,ho⟩:=bnd ho;refine gal fun bb=>?_;refine gfz 1 zb7 xb 0 [11] ?_;obtain ⟨td,hh,ho⟩:=bnd ho;refine glp hh [4,61,62,63,68,69] [1,2] [0,1,2] (fun s g=>([(70,vI s.1)],[(.map b3,.mp zU (zj .i64) s.2)])) (fun b=>(.exit 6,fun g=>([],[(.map b3,.mp zU (zj .i64) b)]))) [] (fun sd gg _ ho=>?_) fun gi=>?_
     ·refine gct ho (fun hi ho=>?_) fun hi ho=>?_
      ·obtain ⟨xd,hs,ho⟩:=bnd ho;refine gal fun bc=>?_;refine gfz 2 zU xd 0 [13] ?_;refine run 1 ?_;refine zaN [3] (by kernel_rfl) ?_;refine run 6 ?_;refine zpi 0 zwF (.inl rfl) rfl (.n rfl) rfl (.t rfl) (.t rfl) (.t rfl) rfl ?_;exact lv [] [0,1,2] ho
      ·exact lv [] [0,1,2] ho
     ·exact lv [] [0,1,2] ho
    ·exact lv [] [0,1,2] ho
   ·refine run 6 ?_;cases ho;refine zn1 (zoz 0 0 (q:=3) [] rfl rfl rfl rfl (by rfl) trivial) ?_;refine zn1 (zhb 1 0 (q:=2) [] rfl rfl rfl rfl (by rfl) trivial) ?_;refine zn1 (zey (R:=zag) (a:=((p_0.1,p_0.2.1,()),ta,tb,())) 0 [4,83,2] (zt (zt (zE rfl) (zt (zE rfl) zcs rfl) rfl) (zt (zE rfl) (zt (zE rfl) zcs rfl) rfl) rfl) rfl rfl ⟨rfl,rfl,rfl,trivial⟩) ?_;refine zn1 (ziC (n:=2) rfl) ?_;exact zfx (zdh (.inr rfl) (.v rfl (.v rfl .n)) (by decide))⟩
instance i171 {n_0 m_1}:FI ktab 171 (zbD n_0 m_1) [.val (zaQ zag) n_0,.val zJ m_1] (fun out=>[wB out]):=fw
instance i202 {m_0}:FI ktab 202 (zef m_0) [.val zJ m_0] (fun out=>[.val zU out]):=fw
instance i209 {p_0 from_1 to_2}:FI ktab 209 (zfA p_0 from_1 to_2) [.val zaw p_0,vI from_1,vI to_2] (fun out=>[wB out]):=fw
instance i210 {p_0 from_1 to_2}:FI ktab 210 (zeT p_0 from_1 to_2) [.val zaw p_0,vI from_1,vI to_2] (fun out=>[wB out]):=fw
instance i211 {p_0 from_1 to_2}:FI ktab 211 (zbT p_0 from_1 to_2) [.val zaw p_0,vI from_1,vI to_2] (fun out=>[wB out]):=⟨fun out ho=>by
 delta zbT at ho;refine fn fun _ _=>?_;obtain ⟨c3,hc3,ho⟩:=bnd ho;refine run 6 ?_;refine gcx c3 [] [] (fun t=>(.normal,fun _=>([(6,vB t)],[]))) ?_ fun _=>?_
 ·exact we hc3
 ·exact rv ho⟩
instance i212 {p_0 from_1 to_2}:FI ktab 212 (zcj p_0 from_1 to_2) [.val zaw p_0,vI from_1,vI to_2] (fun out=>[wB out]):=⟨fun out ho=>by
 delta zcj at ho;refine fn fun _ _=>?_;obtain ⟨c3,hc3,ho⟩:=bnd ho;refine run 6 ?_;refine gcx c3 [] [] (fun t=>(.normal,fun _=>([(6,vB t)],[]))) ?_ fun _=>?_
 ·exact we hc3
 ·exact rv ho⟩
instance i213 {x_0 from_1 to_2}:FI ktab 213 (zby x_0 from_1 to_2) [.val zaw x_0,vI from_1,vI to_2] (fun out=>[wB out]):=⟨fun out ho=>by
 delta zby at ho;refine fn fun _ _=>?_;obtain ⟨c5,hc5,ho⟩:=bnd ho;refine run 6 ?_;refine gcx c5 [] [] (fun t=>(.normal,fun _=>([(6,vB t)],[]))) ?_ fun _=>?_
 ·exact we hc5
 ·exact rv ho⟩
instance i214 {x_0 from_1 to_2}:FI ktab 214 (zbz x_0 from_1 to_2) [.val zaw x_0,vI from_1,vI to_2] (fun out=>[wB out]):=⟨fun out ho=>by
 delta zbz at ho;refine fn fun _ _=>?_;obtain ⟨c5,hc5,ho⟩:=bnd ho;refine run 6 ?_;refine gcx c5 [] [] (fun t=>(.normal,fun _=>([(6,vB t)],[]))) ?_ fun _=>?_
 ·exact we hc5
 ·exact rv ho⟩
instance i203 {x_0 from_1 to_2}:FI ktab 203 (zbm x_0 from_1 to_2) [.val zaw x_0,vI from_1,vI to_2] (fun out=>[wB out]):=⟨fun out ho=>by
 delta zbm at ho;refine fn fun _ _=>?_;refine run 7 ?_;refine znu (R:=(rFn ktab (zaC×Int×Int) Bool (fun x=>[.val zaw x.1,.val (zj .i64) x.2.1,.val (zj .i64) x.2.2]) (fun y=>[.val zab y]))) (zc:=[.nilfunc,.nilfunc,.nilfunc,.nilfunc,.nilfunc,.nilfunc,.nilfunc]) 1 (fun _=>none) ia' (by kernel_rfl) (by rfl) (fun _ j hj=>(match j,hj with | 0,_=>zzP)) (.n rfl) rfl rfl (.c (.fv (zh5 (fun x y hf=>i209.ok _ hf) rfl)) (.c (.fv (zh5 (fun x y hf=>i210.ok _ hf) rfl)) (.c (.fv (zh5 (fun x y hf=>i211.ok _ hf) rfl)) (.c (.fv (zh5 (fun x y hf=>i212.ok _ hf) rfl)) (.c (.fv (zh5 (fun x y hf=>i213.ok _ hf) rfl)) (.c (.fv (zh5 (fun x y hf=>i214.ok _ hf) rfl)) .n)))))) (by rfl) ?_;refine gal fun b1=>?_;refine zgN 0 ia' rfl (by rfl) (by decide) (.n rfl) rfl rfl (.t rfl) (.t rfl) (by rfl) ?_;refine zgz (zll (R:=(rFn ktab (zaC×Int×Int) Bool (fun x=>[.val zaw x.1,.val (zj .i64) x.2.1,.val (zj .i64) x.2.2]) (fun y=>[.val zab y]))) 0 [7] (by decide) (by decide) rfl rfl ⟨rfl,trivial⟩) ?_;obtain ⟨x4,hx4,ho⟩:=bnd ho;refine run 6 ?_;refine zbf ia' hx4 (.n rfl) rfl rfl (.t rfl) (.t rfl) ?_;obtain ⟨y5,hy5,ho⟩:=bnd ho;refine gcv hy5 ?_;exact we ho⟩
instance i204 {m_0}:FI ktab 204 (zdI m_0) [.val zJ m_0] (fun out=>[wI out]):=fw
instance i120 {x_0}:FI ktab 120 (zdk x_0) [vI x_0] (fun out=>[wB out]):=fw
instance i192 {x_0 y_1}:FI ktab 192 (za2 x_0 y_1) [vI x_0,vI y_1] (fun out=>[wB out]):=⟨fun out ho=>by
 delta za2 at ho;refine fn fun _ _=>?_;obtain ⟨c5,hc5,ho⟩:=bnd ho;refine run 5 ?_;refine gcx c5 [] [] (fun t=>(.normal,fun _=>([(4,vB t)],[]))) ?_ fun _=>?_
 ·exact we hc5
 ·exact rv ho⟩
theorem zdO {data_0 a_1 b_2 out} (ho:zY data_0 a_1 b_2=some out) (v_0:ze):zkI ktab 217 [.raw v_0,.val (zj .i64) a_1,.val (zj .i64) b_2] [(v_0,.row (zj .i64) (data_0))] [] (fun γ=>[(v_0,.row (zj .i64) (out))]):=by
 refine ziA (F:=Tryz.f217) (by rfl) (by rfl) (by rfl) (fun C=>?_);delta zY at ho;obtain ⟨ta,ha,ho⟩:=bnd ho;refine glp ha [0,1,2] [] [0] (fun s g=>([(6,vI s.1)],[(v_0,.row (zj .i64) s.2)])) (fun b=>(.exit 0,fun g=>([],[(v_0,.row (zj .i64) b)]))) [] (fun sa ga _ ho=>?_) fun gb=>?_
 ·refine gct ho (fun hc ho=>?_) fun hc ho=>?_
  ·obtain ⟨tb,hd,ho⟩:=bnd ho;refine glp hd [0,1,2,6] [] [0] (fun s g=>([(7,vI s.1)],[(v_0,.row (zj .i64) s.2)])) (fun b=>(.exit 2,fun g=>([],[(v_0,.row (zj .i64) b)]))) [] (fun sb gc _ ho=>?_) fun gd=>?_
   ·refine run 2 ?_;refine zaN [7,12] (by kernel_rfl) ?_;refine wbr ho (fun he ho=>?_) fun he ho=>?_
    ·obtain ⟨xa,hg,xb,hh,ho⟩:=zfX ho;refine gcl ho fun ya hi ho=>?_;refine gct ho (fun hf ho=>?_) fun hf ho=>?_
     ·refine run 3 ?_;refine zaN [9,13] (by kernel_rfl) ?_;obtain ⟨xd,hj,xe,hk,ho⟩:=zfX ho;refine run 14 ?_;obtain ⟨xf,hl,xg,hm,ho⟩:=zfX ho;exact lv [] [0] ho
     ·exact lv [] [0] ho
    ·refine gk ?_;exact lv [] [0] ho
   ·exact lv [] [0] ho
  ·exact lv [] [0] ho
 ·cases ho; exact id (zgO [0] [] (.inl rfl) .n rfl (by decide))
end Go.Ai.TabYtppebpagcocogaaGreat

/- Written by program: walks through functions. -/
namespace Go.Ai.TabYtppebpagcocogaaGreat
open Go Go.Ai Go.Ai.Sx Go.Proofs
attribute [local irreducible] zq
set_option maxRecDepth 100000
set_option maxHeartbeats 4000000
instance i226 {x_0}:FI ktab 226 (zeA x_0) [.val (zj .u64) x_0] (fun out=>[wI out]):=⟨fun out ho=>by
 delta zeA at ho;refine fn fun _ _=>?_;refine gct ho (fun hq1 ho=>?_) fun hq1 ho=>?_
 ·obtain ⟨x2,hx2,ho⟩:=bnd ho;refine gct ho (fun hq3 ho=>?_) fun hq3 ho=>?_
  ·obtain ⟨x4,hx4,ho⟩:=bnd ho;refine gct ho (fun hq5 ho=>?_) fun hq5 ho=>?_
   ·obtain ⟨x6,hx6,x7,hx7,ho⟩:=zfX ho;refine run 16 ?_;refine zgP (tbl:=zdF) (by kernel_rfl) (by kernel_rfl) hx7 (.n rfl) rfl rfl (.t rfl) ?_;exact we ho
   ·obtain ⟨x8,hx8,ho⟩:=bnd ho;refine run 6 ?_;refine zgP (tbl:=zdF) (by kernel_rfl) (by kernel_rfl) hx8 (.n rfl) rfl rfl (.t rfl) ?_;exact we ho
  ·refine gct ho (fun hq9 ho=>?_) fun hq9 ho=>?_
   ·obtain ⟨xa,hk,xb,ha,ho⟩:=zfX ho;refine run 16 ?_;refine zgP (tbl:=zdF) (by kernel_rfl) (by kernel_rfl) ha (.n rfl) rfl rfl (.t rfl) ?_;exact we ho
   ·obtain ⟨xd,hc,ho⟩:=bnd ho;refine run 6 ?_;refine zgP (tbl:=zdF) (by kernel_rfl) (by kernel_rfl) hc (.n rfl) rfl rfl (.t rfl) ?_;exact we ho
 ·refine gct ho (fun hd ho=>?_) fun hd ho=>?_
  ·obtain ⟨xe,hl,ho⟩:=bnd ho;refine gct ho (fun he ho=>?_) fun he ho=>?_
   ·obtain ⟨xf,hm,xg,hf,ho⟩:=zfX ho;refine run 16 ?_;refine zgP (tbl:=zdF) (by kernel_rfl) (by kernel_rfl) hf (.n rfl) rfl rfl (.t rfl) ?_;exact we ho
   ·obtain ⟨xh,hg,ho⟩:=bnd ho;refine run 6 ?_;refine zgP (tbl:=zdF) (by kernel_rfl) (by kernel_rfl) hg (.n rfl) rfl rfl (.t rfl) ?_;exact we ho
  ·refine gct ho (fun hh ho=>?_) fun hh ho=>?_
   ·obtain ⟨xi,hn,xj,hi,ho⟩:=zfX ho;refine run 16 ?_;refine zgP (tbl:=zdF) (by kernel_rfl) (by kernel_rfl) hi (.n rfl) rfl rfl (.t rfl) ?_;exact we ho
   ·obtain ⟨xk,hj,ho⟩:=bnd ho;refine run 6 ?_;refine zgP (tbl:=zdF) (by kernel_rfl) (by kernel_rfl) hj (.n rfl) rfl rfl (.t rfl) ?_;exact we ho⟩
instance i216 {x_0}:FI ktab 216 (zeg x_0) [.val (zj .u64) x_0] (fun out=>[wI out]):=⟨fun out ho=>by
 delta zeg at ho;refine fn fun _ _=>?_;refine gk ?_;exact we ho⟩
theorem ze3 {data_0 a_1 b_2 limit_3 out} (ho:zbi data_0 a_1 b_2 limit_3=some out) (v_0:ze):zkI ktab 215 [.raw v_0,.val (zj .i64) a_1,.val (zj .i64) b_2,.val (zj .i64) limit_3] [(v_0,.row (zj .i64) (data_0))] [] (fun γ=>[(v_0,.row (zj .i64) (out))]):=by
 refine ziA (F:=Tryz.f215) (by rfl) (by rfl) (by rfl) (fun C=>?_);delta zbi at ho;obtain ⟨ta,ha,ho⟩:=bnd ho;refine glp ha [0] [] [0] (fun s g=>([(1,vI s.1),(2,vI s.2.1),(3,vI s.2.2.1),(8,vB s.2.2.2.1),(9,vB s.2.2.2.2.1)],[(v_0,.row (zj .i64) s.2.2.2.2.2)])) (fun b=>(.ret,fun g=>([],[(v_0,.row (zj .i64) b)]))) [] (fun sa ga _ ho=>?_) fun gb=>?_
 ·refine gct ho (fun hc ho=>?_) fun hc ho=>?_
  ·obtain ⟨ya,hd,ho⟩:=bnd ho;refine gcm [0] [] (zdO hd v_0) ?_;intro gc;show zq ..;exact lv [] [0] ho
  ·refine gct ho (fun he ho=>?_) fun he ho=>?_
   ·refine run 5 ?_;cases ho
   ·refine gct ho (fun hf ho=>?_) fun hf ho=>?_
    ·refine run 5 ?_;cases ho
    ·refine run 6 ?_;cases ho
 ·cases ho; exact id (zgO [0] [] (.inr rfl) .n rfl (by decide))
theorem zgc {x_0 out} (ho:zbU x_0=some out) (v_0:ze):zkI ktab 205 [.raw v_0] [(v_0,.row (zj .i64) (x_0))] [] (fun γ=>[(v_0,.row (zj .i64) (out))]):=by
 refine ziA (F:=Tryz.f205) (by rfl) (by rfl) (by rfl) (fun C=>?_);delta zbU at ho;refine gcl ho fun y1 hy1 ho=>?_;obtain ⟨y2,hy2,ho⟩:=bnd ho;refine gcm [0] [] (ze3 hy2 v_0) ?_;intro g3;show zq ..;cases ho; exact zix (zgO [0] [] (.inl rfl) .n rfl (by decide))
instance i206 {n_0}:FI ktab 206 (zeU n_0) [vI n_0] (fun out=>[.val zJ out]):=fw
theorem zfJ {σ τ:Type} {step:σ->(zG)->Option (σ⊕τ)} {yv:ze} {K:σ⊕τ->List ze->Sx.Obj} (hcb:zrB ktab yv (fun x=>[.val zJ (x)]) step K) {s_:σ} {p_1 p_2 out} (ho:zbA step s_ p_1 p_2=some out) (γ0:List ze):zkI ktab 201 [.raw yv,.val (zaQ (zaQ zag)) p_1,.val (zaQ zJ) p_2] [(yv,K (.inl s_) γ0)] [] (fun γ=>[(yv,K (out) (untup (gh γ 0)))]):=by
 refine ziA (F:=Tryz.f201) (by rfl) (by rfl) (by rfl) (fun C=>?_);delta zbA at ho;refine gcl ho fun y5 hy5 ho=>?_;refine gcl ho fun y6 hy6 ho=>?_;obtain ⟨x7,hx7,ho⟩:=bnd ho;refine gal fun b8=>?_;refine gfz 1 zb7 x7 0 [4] ?_;refine gnr (zj .i64) ?_;obtain ⟨ta,ha,ho⟩:=bnd ho;refine glp ha [0,1,2,4,25,26] [] [1,0] (fun s g=>([(5,.raw (gh g 0)),(27,vI s.2)],[(yv,K (.inl s_) γ0),((gh g 0),.row (zj .i64) s.1)])) (fun b=>(.exit 0,fun g=>([(5,.raw (gh g 0))],[(yv,K (.inl s_) γ0),((gh g 0),.row (zj .i64) b)]))) [.nilslice] (fun sa gb _ ho=>?_) fun gc=>?_
 ·refine gct ho (fun hc ho=>?_) fun hc ho=>?_
  ·obtain ⟨xa,hj,ho⟩:=bnd ho;refine gal fun ba=>?_;refine gfz 2 zU xa 0 [7] ?_;refine gcl ho fun yb hk ho=>?_;refine zwu zwF iz' (.n rfl) rfl rfl (.t rfl) (.t rfl) ?_;refine gcl ho fun yc hl ho=>?_;refine gct ho (fun hd ho=>?_) fun hd ho=>?_
   ·refine gcl ho fun yd hm ho=>?_;obtain ⟨xb,hn,ho⟩:=bnd ho;refine gap fun vb=>?_;exact lv [vb] [1,0] ho
   ·exact lv [(gh gb 0)] [0,1] ho
  ·exact lv [(gh gb 0)] [0,1] ho
 ·obtain ⟨ya,he,ho⟩:=bnd ho;refine gcm [1] [0] (zgc he (gh gc 0)) ?_;intro ge;show zq ..;obtain ⟨tb,hf,ho⟩:=bnd ho;refine gl2 hf ho [0,55,56] [] [0,1] (fun s g=>([(57,vI s.1)],[((gh gc 0),.row (zj .i64) ya),(yv,K s.2 (untup (gh g 0)))])) (fun b=>(.exit 2,fun g=>([],[(yv,K b (untup (gh g 0)))]))) (fun b=>(.ret,fun g=>([],[(yv,K b (untup (gh g 0)))]))) [.tuple γ0] (fun sb gd _ ho=>?_) (fun bb ho ga=>?_) fun bc ho ga=>?_
  ·refine gct ho (fun hg ho=>?_) fun hg ho=>?_
   ·obtain ⟨xd,hp,ho⟩:=bnd ho;refine gcl ho fun ye hr ho=>?_;obtain ⟨sc,hs55,ho⟩:=bnd ho;refine zgz (zrE (K:=K) 1 (zox hs55) rfl rfl) ?_;obtain ⟨yf,hh,ho⟩:=bnd ho;refine zow [1] [0] (fun _ h=>by cases h) hcb hh rfl rfl rfl (by decide) (.n rfl) rfl rfl rfl (.t rfl) (.c (.t rfl) .n) ?_;intro va;refine gct ho (fun hi ho=>?_) fun hi ho=>?_
    ·exact lv [.tuple va] [0] ho
    ·exact lv [.tuple va] [1,0] ho
   ·exact lv [.tuple (untup (gh gd 0))] [1] ho
  ·cases ho; exact id (zgO [0] [.tuple (untup (gh ga 0))] (.inl rfl) .n rfl (by decide))
  ·cases ho; exact id (zgO [0] [.tuple (untup (gh ga 0))] (.inr rfl) .n rfl (by decide))
theorem zfY {σ τ:Type} {step:σ->(zG)->Option (σ⊕τ)} {yv:ze} {K:σ⊕τ->List ze->Sx.Obj} (hcb:zrB ktab yv (fun x=>[.val zJ (x)]) step K) {s_:σ} {p_1 p_2 out} (ho:zbA step s_ p_1 p_2=some out) (γ0:List ze):zkI ktab 201 [.raw yv,.val (zaQ (zaQ zag)) p_1,.val (zaQ zJ) p_2] [(yv,K (.inl s_) γ0)] [] (fun γ=>[(yv,K (out) γ)]):=
 zoy (zfJ hcb ho γ0)
instance i189 {n_0 m_1}:FI ktab 189 (zcM n_0 m_1) [.val (zaQ zag) n_0,.val zJ m_1] (fun out=>[.val (ztn 201 [] [.val (zaQ (zaQ zag)) out.1,.val (zaQ zJ) out.2]) ()]):=⟨fun out ho=>by
 delta zcM at ho;refine fn fun _ _=>?_;refine run 4 ?_;refine zai rfl (.n rfl) rfl (e:=.raw .nilfunc) (fun z fr h s=>⟨_,rfl,by simp only [TE.ok]; rfl⟩) ?_;refine run 3 ?_;refine zou (.n rfl) rfl rfl .n (.c (.t rfl) (.c (.t rfl) .n)) ?_;exact we ho⟩
instance i177 {n_0 m_1 k_2}:FI ktab 177 (zaW n_0 m_1 k_2) [.val (zaQ zag) n_0,.val zJ m_1,.val zJ k_2] (fun out=>[wB out]):=⟨fun out ho=>by
 delta zaW at ho;refine fn fun _ _=>?_;refine gal fun b1=>?_;refine gcl ho fun y2 hy2 ho=>?_;obtain ⟨ta,ha,ho⟩:=bnd ho;refine run 2 ?_;refine zrD (σ:=Bool) (τ:=Bool) (X:=zG) (ins:=(fun x=>[.val zJ x])) (zzX (fun s g=>[(.ptr b1 0,.box [vB s])]) (fun t g=>[(.ptr b1 0,.box [vB t])])) (fun _=>none) (s0:=false) (r:=ta) [] [0] [] rfl (.t rfl) rfl rfl (by decide) (fun _=>rfl) (fun yv K hcb γ=>zfY hcb ha γ) ?_ ?_
 ·clear ho ha;intro s8 g9 x3 r13 ho C;refine gal fun ba=>?_;refine gfz 1 zJ x3 0 [7] ?_;refine zix (fun fr h s=>And.intro rfl (Exists.intro _ (Exists.intro _ (And.intro s (fun C=>?_)))));refine gct ho (fun hc ho=>?_) fun hc ho=>?_
  ·refine run 4 ?_;cases ho; exact zfx (fun fr h s=>And.intro rfl (Exists.intro [] (s.pick [0] trivial rfl (by decide))))
  ·cases ho; exact znn (fun fr h s=>And.intro rfl (Exists.intro [] (s.pick [0] trivial rfl (by decide))))
 ·clear ha;rcases ta with bb | bc
  ·have ho:=zwm ho;intro ga;refine gwk [0,1,2,4,5,6,8,9,10] [0] ?_;exact we ho
  ·have ho:=zwn ho;intro gb;refine gwk [0,1,2,4,5,6,8,9,10] [0] ?_;exact rv ho⟩
instance i154 {n_0 l_1}:FI ktab 154 (zck n_0 l_1) [.val (zaQ zag) n_0,.val (zf zJ) l_1] (fun out=>[wB out]):=⟨fun out ho=>by
 delta zck at ho;refine fn fun _ _=>?_;obtain ⟨ta,ha,ho⟩:=bnd ho;refine gl2 ha ho [0,1,7,8] [] [] (fun s g=>([(9,vI s)],[])) (fun b=>(.exit 0,fun g=>([],[]))) (fun b=>(.ret,fun g=>([(4,vB b)],[]))) [] (fun sa gb _ ho=>?_) (fun ba ho ga=>?_) fun bb ho ga=>?_
 ·refine gct ho (fun hc ho=>?_) fun hc ho=>?_
  ·obtain ⟨xa,hf,ho⟩:=bnd ho;refine gal fun bc=>?_;refine gfz 2 zJ xa 0 [6] ?_;refine gcl ho fun ya hg ho=>?_;refine wbr ho (fun hd ho=>?_) fun hd ho=>?_
   ·refine gk ?_;exact we ho
   ·refine wbr ho (fun he ho=>?_) fun he ho=>?_
    ·refine run 5 ?_;exact we ho
    ·refine gk ?_;exact we ho
  ·exact lv [] [] ho
 ·exact we ho
 ·exact rv ho⟩
instance i155 {n_0 l_1}:FI ktab 155 (za3 n_0 l_1) [.val (zaQ zag) n_0,.val (zf zJ) l_1] (fun out=>[wI out]):=⟨fun out ho=>by
 delta za3 at ho;refine fn fun _ _=>?_;obtain ⟨ta,ha,ho⟩:=bnd ho;refine glp ha [0,8,9] [] [] (fun s g=>([(5,vI s.1),(10,vI s.2)],[])) (fun b=>(.exit 0,fun g=>([(5,vI b)],[]))) [] (fun s6 g7 _ ho=>?_) fun ga=>?_
 ·refine gct ho (fun hq8 ho=>?_) fun hq8 ho=>?_
  ·obtain ⟨x9,hx9,ho⟩:=bnd ho;refine gal fun ba=>?_;refine gfz 1 zJ x9 0 [7] ?_;exact we ho
  ·exact lv [] [] ho
 ·exact we ho⟩
end Go.Ai.TabYtppebpagcocogaaGreat
