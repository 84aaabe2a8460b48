/- Written by program: the data of the functions,and the functions as plain Lean. -/
import Derived.Test.YtppebpagcocogaaGreatS7
set_option linter.unusedSimpArgs false
set_option linter.unusedVariables false
set_option linter.unusedSectionVars false
namespace Go.Ai.Sx
open Option renaming bind->Zb,bind_some->Zs
abbrev Spot:Type:=Int×Int×Unit
abbrev zo:Type:=Int×Bool×Unit
abbrev zcp:Type:=Spot×Int×(List zo)×Int×Unit
abbrev Rail:Type:=Int×Int×(List Spot)×Int×Int×Unit
abbrev Plan:Type:=(List zcp)×(List Rail)×Unit
abbrev zG:Type:=Int×Bool×Unit
abbrev Course:Type:=(List zG)×(List Int)×(List Int)×Unit
abbrev Train:Type:=Int×Int×Int×Int×Int×Int×Int×Int×Int×(List Int)×Unit
abbrev Line:Type:=Course×Course×Train×Int×Int×Unit
abbrev zbh:Type:=Plan×(List Int)×(List (zo×Int))×Unit
abbrev zi9:Type:=Plan×Unit×ze×Unit
abbrev zaC:Type:=zcp×Unit
abbrev zaq:Type:=Train×Int×Unit
abbrev zaB:Type:=zaq×(List zG)×(List Int)×(List Int)×(List Int)×(List Int)×Unit
abbrev zkJ:Type:=zaq×(List zG)×Unit×Unit×Unit×(List Int)×Unit
abbrev zb:Type:=Int×Int×Unit
abbrev z6:Type:=Int×Int×Int×Int×Int×Int×Unit
abbrev zbg:Type:=zb×z6×Int×Int×Unit
abbrev Leg:Type:=Int×Int×z6×Int×Int×Unit
abbrev zk:Type:=Line×(List (List Int))×(List (List Int))×Unit
abbrev z9:Type:=Plan×(List zG)×Train×Int×Int×Unit
abbrev Cover:Type:=Int×Int×Int×Unit
abbrev Service:Type:=(List Line)×(List Int)×(List Int)×Unit
abbrev Connection:Type:=Int×Bool×Int×Int×Bool×Int×Int×Int×Unit
abbrev Works:Type:=Int×Int×Int×Unit
abbrev Trip:Type:=Int×Bool×Int×Int×Unit
abbrev zcE:Rep Spot:=(zK (zj .i64) (zK (zj .i64) zdg))
abbrev zU:Rep zo:=(zK (zj .i64) (zK zab zdg))
abbrev zb7:Rep zcp:=(zK zcE (zK (zj .i64) (zK (zf zU) (zK (zj .i64) zdg))))
abbrev zd4:Rep Rail:=(zK (zj .i64) (zK (zj .i64) (zK (zf zcE) (zK (zj .i64) (zK (zj .i64) zdg)))))
abbrev zaf:Rep Plan:=(zK (zf zb7) (zK (zf zd4) zdg))
abbrev zJ:Rep zG:=(zK (zj .i64) (zK zab zdg))
abbrev zcF:Rep Course:=(zK (zf zJ) (zK (zf (zj .i64)) (zK (zf (zj .i64)) zdg)))
abbrev zbR:Rep Train:=(zK (zj .i64) (zK (zj .i64) (zK (zj .i64) (zK (zj .i64) (zK (zj .i64) (zK (zj .i64) (zK (zj .i64) (zK (zj .i64) (zK (zj .i64) (zK (zf (zj .i64)) zdg))))))))))
abbrev zbK:Rep Line:=(zK zcF (zK zcF (zK zbR (zK (zj .i64) (zK (zj .i64) zdg)))))
abbrev zag:Rep zbh:=(zK zaf (zK (zf (zj .i64)) (zK (zqJ zU (zj .i64)) zdg)))
abbrev ziD:Rep zi9:=(zK zaf (zK zuc (zK zxX zdg)))
abbrev zaw:Rep zaC:=(zK zb7 zdg)
abbrev zM:Rep zaq:=(zK zbR (zK (zj .i64) zdg))
abbrev zaD:Rep zaB:=(zK (zaQ zM) (zK (zf zJ) (zK (zf (zj .i64)) (zK (zf (zj .i64)) (zK (zf (zj .i64)) (zK (zf (zj .i64)) zdg))))))
abbrev zkf:Rep zkJ:=(zK (zaQ zM) (zK (zf zJ) (zK zuc (zK zuc (zK zuc (zK (zf (zj .i64)) zdg))))))
abbrev zr:Rep zb:=(zK (zj .i64) (zK (zj .i64) zdg))
abbrev zw:Rep z6:=(zK (zj .i64) (zK (zj .i64) (zK (zj .i64) (zK (zj .i64) (zK (zj .i64) (zK (zj .i64) zdg))))))
abbrev zaR:Rep zbg:=(zK zr (zK zw (zK (zj .i64) (zK (zj .i64) zdg))))
abbrev zge:Rep Leg:=(zK (zj .i64) (zK (zj .i64) (zK zw (zK (zj .i64) (zK (zj .i64) zdg)))))
theorem zuh:FOk zge 0 (zj .i64) (fun x=>x.1) (fun x y=>(y,x.2.1,x.2.2.1,x.2.2.2.1,x.2.2.2.2.1,())):=FOk.off FOk.here rfl
abbrev zg:Rep zk:=(zK zbK (zK (zjX 2 (zf (zj .i64))) (zK (zjX 2 (zf (zj .i64))) zdg)))
abbrev zam:Rep z9:=(zK zaf (zK (zf zJ) (zK zbR (zK (zj .i64) (zK (zj .i64) zdg)))))
abbrev zgQ:Rep Cover:=(zK (zj .i64) (zK (zj .i64) (zK (zj .i64) zdg)))
theorem zqr:FOk zgQ 0 (zj .i64) (fun x=>x.1) (fun x y=>(y,x.2.1,x.2.2.1,())):=FOk.off FOk.here rfl
abbrev zac:Rep Service:=(zK (zf zbK) (zK (zf (zj .i64)) (zK (zf (zj .i64)) zdg)))
abbrev zL:Rep Connection:=(zK (zj .i64) (zK zab (zK (zj .i64) (zK (zj .i64) (zK zab (zK (zj .i64) (zK (zj .i64) (zK (zj .i64) zdg))))))))
abbrev zcu:Rep Works:=(zK (zj .i64) (zK (zj .i64) (zK (zj .i64) zdg)))
abbrev zhE:Rep Trip:=(zK (zj .i64) (zK zab (zK (zj .i64) (zK (zj .i64) zdg))))
theorem zbS {x:z6}:Cells zw x [.val (zj .i64) x.1,.val (zj .i64) x.2.1,.val (zj .i64) x.2.2.1,.val (zj .i64) x.2.2.2.1,.val (zj .i64) x.2.2.2.2.1,.val (zj .i64) x.2.2.2.2.2.1]:=(zt (zE rfl) (zt (zE rfl) (zt (zE rfl) (zt (zE rfl) (zt (zE rfl) (zt (zE rfl) zcs rfl) rfl) rfl) rfl) rfl) rfl)
theorem zhq {x:zb}:Cells zr x [.val (zj .i64) x.1,.val (zj .i64) x.2.1]:=(zt (zE rfl) (zt (zE rfl) zcs rfl) rfl)
def zdF:List Int:=[0,1,2,2,3,3,3,3,4,4,4,4,4,4,4,4,5,5,5,5,5,5,5,5,5,5,5,5,5,5,5,5,6,6,6,6,6,6,6,6,6,6,6,6,6,6,6,6,6,6,6,6,6,6,6,6,6,6,6,6,6,6,6,6,7,7,7,7,7,7,7,7,7,7,7,7,7,7,7,7,7,7,7,7,7,7,7,7,7,7,7,7,7,7,7,7,7,7,7,7,7,7,7,7,7,7,7,7,7,7,7,7,7,7,7,7,7,7,7,7,7,7,7,7,7,7,7,7,8,8,8,8,8,8,8,8,8,8,8,8,8,8,8,8,8,8,8,8,8,8,8,8,8,8,8,8,8,8,8,8,8,8,8,8,8,8,8,8,8,8,8,8,8,8,8,8,8,8,8,8,8,8,8,8,8,8,8,8,8,8,8,8,8,8,8,8,8,8,8,8,8,8,8,8,8,8,8,8,8,8,8,8,8,8,8,8,8,8,8,8,8,8,8,8,8,8,8,8,8,8,8,8,8,8,8,8,8,8,8,8,8,8,8,8,8,8,8,8,8,8,8,8,8,8,8,8]
def zad (n_0:Int) (low_1:Int) (high_2:Int):Option (Bool):=
Zb (cond (decide (n_0≥low_1)) (some (decide (n_0≤high_2))) (some false)) fun c2=>
some c2
def zbs (s_0:Spot):Option (Bool):=
Zb (Zb (zad s_0.1 (-10000000) 10000000) fun y5=>
cond y5 (Zb (zad s_0.2.1 (-10000000) 10000000) fun y7=>
some y7) (some false)) fun c4=>
some c4
def zaI (k_0:Int):Option (Int):=
cond (k_0==1) (some 1) (cond (k_0==2) (some 2) (cond (k_0==3) (some 4) (cond (k_0==4) (cond (k_0==4) (some 3) (some 0)) (cond (k_0==5) (cond (k_0==5) (some 3) (some 0)) (cond (k_0==6) (some 3) (some 0))))))
def zdi (p_0:Plan) (rail_1:Int):Option (List Spot):=
Zb (idx p_0.2.1 rail_1) fun x1=>
Zb (idx p_0.1 x1.1) fun x3=>
Zb (zdQ 16 ([x3.1]) x1.2.2.1) fun x5=>
Zb (idx p_0.1 x1.2.1) fun x7=>
Zb (zdQ 16 x5 ([x7.1])) fun x8=>
some x8
def zeP (n_0:Int):Option (Int):=
Zb (iter (σ:=(Int×Int)) (τ:=Int) (fun s4=>
cond (decide ((w64 (s4.2-s4.1))>1)) (Zb (zcb .i64 (w64 (s4.1+s4.2)) 2) fun x7=>
cond (decide ((w64 (x7*x7))≤n_0)) (some (.inl (x7,s4.2))) (some (.inl (s4.1,x7)))) (some (.inr s4.1))) big (0,30000000)) fun t9=>
some t9
def zdj (a_0:Spot) (b_1:Spot):Option (Int):=
Zb (zeP (w64 ((w64 ((w64 (a_0.1-b_1.1))*(w64 (a_0.1-b_1.1))))+(w64 ((w64 (a_0.2.1-b_1.2.1))*(w64 (a_0.2.1-b_1.2.1))))))) fun y1=>
some y1
def zfk (p_0:Plan) (e_1:zo):Option (Int):=
cond e_1.2.1 (Zb (idx p_0.2.1 e_1.1) fun x2=>
some x2.2.1) (Zb (idx p_0.2.1 e_1.1) fun x3=>
some x3.1)
def zc1 (p_0:Plan):Option (Bool):=
Zb (Zb (zad (zn p_0.1) 1 300) fun y5=>
cond (!y5) (some true) (Zb (zad (zn p_0.2.1) 1 400) fun y7=>
some (!y7))) fun c4=>
cond c4 (some false) (Zb (iter (σ:=Int) (τ:=Unit⊕(Bool)) (fun sc=>
cond (decide (sc<(zn p_0.1))) (Zb (idx p_0.1 sc) fun xa=>
cond (xa.2.1==5) (Zb (zad xa.2.2.2.1 1 2) fun yb=>
Zb (zbs xa.1) fun yc=>
cond (!yc) (some (.inr (.inr false))) (Zb (zaI xa.2.1) fun yd=>
cond (yd==0) (some (.inr (.inr false))) (Zb (zaI xa.2.1) fun ye=>
cond ((zn xa.2.2.1)!=ye) (some (.inr (.inr false))) (cond (!yb) (some (.inr (.inr false))) (some (.inl (w64 (sc+1)))))))) (cond (xa.2.1==6) (Zb (zad xa.2.2.2.1 1 2) fun yf=>
Zb (zbs xa.1) fun yg=>
cond (!yg) (some (.inr (.inr false))) (Zb (zaI xa.2.1) fun yh=>
cond (yh==0) (some (.inr (.inr false))) (Zb (zaI xa.2.1) fun yi=>
cond ((zn xa.2.2.1)!=yi) (some (.inr (.inr false))) (cond (!yf) (some (.inr (.inr false))) (some (.inl (w64 (sc+1)))))))) (Zb (zbs xa.1) fun yj=>
cond (!yj) (some (.inr (.inr false))) (Zb (zaI xa.2.1) fun yk=>
cond (yk==0) (some (.inr (.inr false))) (Zb (zaI xa.2.1) fun yl=>
cond ((zn xa.2.2.1)!=yl) (some (.inr (.inr false))) (cond (!(xa.2.2.2.1==0)) (some (.inr (.inr false))) (some (.inl (w64 (sc+1)))))))))) (some (.inr (.inl ())))) big 0) fun ta=>
alt (fun bj=>Zb (iter (σ:=Int) (τ:=Unit⊕(Bool)) (fun sd=>
cond (decide (sd<(zn p_0.2.1))) (Zb (idx p_0.2.1 sd) fun xb=>
Zb (zad xb.1 0 (w64 ((zn p_0.1)-1))) fun ym=>
cond (!ym) (some (.inr (.inr false))) (Zb (zad xb.2.1 0 (w64 ((zn p_0.1)-1))) fun yn=>
cond (!yn) (some (.inr (.inr false))) (cond (decide ((zn xb.2.2.1)>30)) (some (.inr (.inr false))) (Zb (zad xb.2.2.2.1 1 50000) fun yo=>
cond (!yo) (some (.inr (.inr false))) (Zb (zad xb.2.2.2.2.1 (-120) 120) fun yp=>
cond (!yp) (some (.inr (.inr false))) (Zb (iter (σ:=Int) (τ:=Unit⊕(Bool)) (fun sf=>
cond (decide (sf<(zn xb.2.2.1))) (Zb (idx xb.2.2.1 sf) fun xe=>
Zb (zbs xe) fun yq=>
cond (!yq) (some (.inr (.inr false))) (some (.inl (w64 (sf+1))))) (some (.inr (.inl ())))) big 0) fun tb=>
alt (fun bk=>Zb (zdi p_0 sd) fun ya=>
Zb (iter (σ:=Int) (τ:=Unit⊕(Bool)) (fun se=>
cond (decide (se<(zn ya))) (Zb (idx ya (w64 (se-1))) fun xf=>
Zb (idx ya se) fun xg=>
Zb (zdj xf xg) fun yr=>
Zb (zad yr 1 1000000) fun ys=>
cond (!ys) (some (.inr (.inr false))) (some (.inl (w64 (se+1))))) (some (.inr (.inl ())))) big 1) fun tc=>
alt (fun bl=>some (.inl (w64 (sd+1)))) (fun ba=>some (.inr (.inr ba))) tc) (fun bb=>some (.inr (.inr bb))) tb)))))) (some (.inr (.inl ())))) big 0) fun td=>
alt (fun bm=>Zb (iter (σ:=((List zo)×Int)) (τ:=(List zo)⊕(Bool)) (fun sa=>
cond (decide (sa.2<(zn p_0.1))) (Zb (iter (σ:=((List zo)×Int)) (τ:=(List zo)⊕(Bool)) (fun sb=>
Zb (idx p_0.1 sa.2) fun xh=>
cond (decide (sb.2<(zn xh.2.2.1))) (Zb (idx p_0.1 sa.2) fun xi=>
Zb (idx xi.2.2.1 sb.2) fun xd=>
Zb (zad xd.1 0 (w64 ((zn p_0.2.1)-1))) fun yt=>
cond (!yt) (some (.inr (.inr false))) (Zb (zfk p_0 xd) fun yu=>
cond (yu !=sa.2) (some (.inr (.inr false))) (Zb (iter (σ:=Int) (τ:=Unit⊕(Bool)) (fun sg=>
cond (decide (sg<(zn sb.1))) (Zb (idx sb.1 sg) fun xj=>
cond (xj==xd) (some (.inr (.inr false))) (some (.inl (w64 (sg+1))))) (some (.inr (.inl ())))) big 0) fun te=>
alt (fun bn=>Zb (zdQ 16 sb.1 ([xd])) fun xk=>
some (.inl (xk,(w64 (sb.2+1))))) (fun bc=>some (.inr (.inr bc))) te))) (some (.inr (.inl sb.1)))) big (sa.1,0)) fun tf=>
alt (fun bd=>some (.inl (bd,(w64 (sa.2+1))))) (fun be=>some (.inr (.inr be))) tf) (some (.inr (.inl sa.1)))) big ([],0)) fun tg=>
alt (fun bf=>some ((zn bf)==(w64 (2*(zn p_0.2.1))))) (fun bg=>some bg) tg) (fun bh=>some bh) td) (fun bi=>some bi) ta)
def zaH (p_0:Plan) (rail_1:Int):Option (Int):=
Zb (zdi p_0 rail_1) fun y1=>
Zb (iter (σ:=(Int×Int)) (τ:=Int) (fun sa=>
cond (decide (sa.2<(zn y1))) (Zb (idx y1 (w64 (sa.2-1))) fun xa=>
Zb (idx y1 sa.2) fun xb=>
Zb (zdj xa xb) fun ya=>
some (.inl ((w64 (sa.1+ya)),(w64 (sa.2+1))))) (some (.inr sa.1))) big (0,1)) fun ta=>
some ta
def zed (p_0:Plan):Option (Bool):=
Zb (cond (decide ((zn p_0.1)>12)) (some true) (some (decide ((zn p_0.2.1)>12)))) fun c2=>
cond c2 (some false) (Zb (iter (σ:=Int) (τ:=Unit⊕(Bool)) (fun s8=>
cond (decide (s8<(zn p_0.1))) (Zb (idx p_0.1 s8) fun xa=>
cond (decide ((zn xa.2.2.1)>6)) (some (.inr (.inr false))) (some (.inl (w64 (s8+1))))) (some (.inr (.inl ())))) big 0) fun ta=>
alt (fun bc=>Zb (iter (σ:=Int) (τ:=Unit⊕(Bool)) (fun sb=>
cond (decide (sb<(zn p_0.2.1))) (Zb (idx p_0.2.1 sb) fun xb=>
cond (decide ((zn xb.2.2.1)>10)) (some (.inr (.inr false))) (some (.inl (w64 (sb+1))))) (some (.inr (.inl ())))) big 0) fun tb=>
alt (fun bd=>Zb (zc1 p_0) fun ya=>
cond ya (Zb (iter (σ:=(Int×Int)) (τ:=Int) (fun sa=>
cond (decide (sa.2<(zn p_0.2.1))) (Zb (zaH p_0 sa.2) fun yb=>
some (.inl ((w64 (sa.1+yb)),(w64 (sa.2+1))))) (some (.inr sa.1))) big (0,0)) fun tc=>
some (decide (tc≤200000))) (some (decide (0≤200000)))) (fun ba=>some ba) tb) (fun bb=>some bb) ta)
def zc2 (l_0:Line):Option (Bool):=
Zb (cond (decide ((zn l_0.1.1)≤12)) (cond (decide ((zn l_0.2.1.1)≤12)) (cond (decide ((zn l_0.1.2.1)≤6)) (cond (decide ((zn l_0.2.1.2.1)≤6)) (cond (decide ((zn l_0.1.2.2.1)≤8)) (cond (decide ((zn l_0.2.1.2.2.1)≤8)) (cond (decide ((zn l_0.2.2.1.2.2.2.2.2.2.2.2.2.1)≤10)) (cond (decide (l_0.2.2.1.2.2.2.2.1≥200)) (cond (decide (l_0.2.2.1.2.2.2.1≥200)) (some (decide (l_0.2.2.1.1≤4000))) (some false)) (some false)) (some false)) (some false)) (some false)) (some false)) (some false)) (some false)) (some false)) fun ca=>
some ca
def zl (x_0:Int) (low_1:Int) (high_2:Int):Option (Bool):=
Zb (cond (decide (x_0≥low_1)) (some (decide (x_0≤high_2))) (some false)) fun c2=>
some c2
def zR (x_0:Int) (low_1:Int) (high_2:Int):Option (Bool):=
Zb (cond (decide (x_0≥low_1)) (some (decide (x_0≤high_2))) (some false)) fun c2=>
some c2
def zax (s_0:(List zcp)) (f_1:((zcp)->Option (Bool))):Option (Int):=
Zb (iter (σ:=Int) (τ:=Unit⊕(Int)) (fun s5=>
cond (decide (s5<(zn s_0))) (Zb (idx s_0 s5) fun x8=>
Zb (f_1 x8) fun y9=>
cond y9 (some (.inr (.inr s5))) (some (.inl (w64 (s5+1))))) (some (.inr (.inl ())))) big 0) fun ta=>
alt (fun bb=>some (-1)) (fun ba=>some ba) ta
def zan (s_0:(List zcp)) (f_1:((zcp)->Option (Bool))):Option (Bool):=
Zb (zax s_0 f_1) fun y1=>
some (decide (y1≥0))
def zcT (s_0:Spot):Option (Bool):=
Zb (Zb (zR s_0.1 (-10000000) 10000000) fun y5=>
cond y5 (Zb (zR s_0.2.1 (-10000000) 10000000) fun y7=>
some y7) (some false)) fun c4=>
some c4
def zfa :Option (List Int):=
some (List.replicate 1 0++([1,2,4,3,3,3]:(List Int)))
def zeQ (n_0:zcp):Option (Bool):=
Zb (cond (decide (n_0.2.1<1)) (some true) (cond (decide (n_0.2.1>6)) (some true) (Zb (zcT n_0.1) fun ya=>
cond (!ya) (some true) (Zb zfa fun yb=>
Zb (idx yb n_0.2.1) fun xa=>
some ((zn n_0.2.2.1)!=xa))))) fun ca=>
cond ca (some false) (Zb (cond (n_0.2.1==5) (some true) (some (n_0.2.1==6))) fun cc=>
cond cc (Zb (zR n_0.2.2.2.1 1 2) fun yc=>
some yc) (some (n_0.2.2.2.1==0)))
def zfz (n_0:zcp):Option (Bool):=
Zb (zeQ n_0) fun y1=>
some (!y1)
def zay (s_0:(List Rail)) (f_1:((Rail)->Option (Bool))):Option (Int):=
Zb (iter (σ:=Int) (τ:=Unit⊕(Int)) (fun s5=>
cond (decide (s5<(zn s_0))) (Zb (idx s_0 s5) fun x8=>
Zb (f_1 x8) fun y9=>
cond y9 (some (.inr (.inr s5))) (some (.inl (w64 (s5+1))))) (some (.inr (.inl ())))) big 0) fun ta=>
alt (fun bb=>some (-1)) (fun ba=>some ba) ta
def zao (s_0:(List Rail)) (f_1:((Rail)->Option (Bool))):Option (Bool):=
Zb (zay s_0 f_1) fun y1=>
some (decide (y1≥0))
def zau (n_1:Int):Option (List Spot):=
cond (decide (n_1<0)) none (cond (decide ((w64 (n_1-(w64 (0-0))))>0)) (Zb (zrP 16 (w64 (n_1-(w64 (0-0)))) ((0,0,()):Spot)) fun x3=>
Zb (slz x3) fun x5=>
some ([]:List Spot)) (some ([])))
def zap (slices_0:(List (List Spot))):Option (List Spot):=
Zb (iter (σ:=(Int×Int)) (τ:=Int) (fun s4=>
cond (decide (s4.2<(zn slices_0))) (Zb (idx slices_0 s4.2) fun x7=>
cond (decide ((w64 (s4.1+(zn x7)))<0)) none (some (.inl ((w64 (s4.1+(zn x7))),(w64 (s4.2+1)))))) (some (.inr s4.1))) big (0,0)) fun t9=>
Zb (zau t9) fun ya=>
Zb (iter (σ:=((List Spot)×Int)) (τ:=(List Spot)) (fun sa=>
cond (decide (sa.2<(zn slices_0))) (Zb (idx slices_0 sa.2) fun xa=>
Zb (zdQ 16 sa.1 xa) fun xb=>
some (.inl (xb,(w64 (sa.2+1))))) (some (.inr sa.1))) big (ya,0)) fun ta=>
some ta
def zdZ (p_0:Plan) (r_1:Rail):Option (List Spot):=
Zb (idx p_0.1 r_1.1) fun x5=>
Zb (idx p_0.1 r_1.2.1) fun x6=>
Zb (zap ([[x5.1],r_1.2.2.1,[x6.1]])) fun y7=>
some y7
def zeR (n_0:Int):Option (Int):=
Zb (FloatKind.f64.format.sqrt (FloatKind.f64.nearest n_0)) fun x1=>
Zb (f2i x1) fun x2=>
Zb (iter (σ:=Int) (τ:=Int) (fun s4=>
cond (decide ((w64 (s4*s4))>n_0)) (some (.inl (w64 (s4-1)))) (some (.inr s4))) big x2) fun t7=>
Zb (iter (σ:=Int) (τ:=Int) (fun sa=>
cond (decide ((w64 ((w64 (sa+1))*(w64 (sa+1))))≤n_0)) (some (.inl (w64 (sa+1)))) (some (.inr sa))) big t7) fun ta=>
some ta
def zcU (a_0:Spot) (b_1:Spot):Option (Int):=
Zb (zeR (w64 ((w64 ((w64 (a_0.1-b_1.1))*(w64 (a_0.1-b_1.1))))+(w64 ((w64 (a_0.2.1-b_1.2.1))*(w64 (a_0.2.1-b_1.2.1))))))) fun y1=>
some y1
def zeS (p_0:Plan) (r_1:Rail):Option (Bool):=
Zb (Zb (zR r_1.1 0 (w64 ((zn p_0.1)-1))) fun yb=>
cond (!yb) (some true) (Zb (zR r_1.2.1 0 (w64 ((zn p_0.1)-1))) fun yc=>
cond (!yc) (some true) (cond (decide ((zn r_1.2.2.1)>30)) (some true) (Zb (zR r_1.2.2.2.1 1 50000) fun yd=>
cond (!yd) (some true) (Zb (zR r_1.2.2.2.2.1 (-120) 120) fun ye=>
some (!ye)))))) fun c9=>
cond c9 (some false) (Zb (zdZ p_0 r_1) fun ya=>
Zb (iter (σ:=Int) (τ:=Unit⊕(Bool)) (fun sa=>
cond (decide (sa<(zn ya))) (Zb (idx ya sa) fun xa=>
Zb (zcT xa) fun yf=>
cond (!yf) (some (.inr (.inr false))) (cond (decide (sa>0)) (Zb (idx ya (w64 (sa-1))) fun xb=>
Zb (zcU xb xa) fun yg=>
Zb (zR yg 1 1000000) fun yh=>
cond (!yh) (some (.inr (.inr false))) (some (.inl (w64 (sa+1))))) (some (.inl (w64 (sa+1)))))) (some (.inr (.inl ())))) big 0) fun ta=>
alt (fun bb=>some true) (fun ba=>some ba) ta)
def zee (r_0:Rail) (p_1:Plan):Option (Bool):=
Zb (zeS p_1 r_0) fun y1=>
some (!y1)
def zcG (p_0:Plan) (e_1:zo):Option (Int):=
cond e_1.2.1 (Zb (idx p_0.2.1 e_1.1) fun x2=>
some x2.2.1) (Zb (idx p_0.2.1 e_1.1) fun x3=>
some x3.1)
def zdx (p_0:Plan):Option (Int):=
Zb (Zb (zR (zn p_0.1) 1 300) fun y5=>
cond (!y5) (some true) (Zb (zR (zn p_0.2.1) 1 400) fun y7=>
some (!y7))) fun c4=>
cond c4 (some 2) (Zb (Zb (zan p_0.1 (fun x=>zfz x)) fun ya=>
cond ya (some true) (Zb (zao p_0.2.1 (fun x=>zee x p_0)) fun yb=>
some yb)) fun ca=>
cond ca (some 2) (Zb (iter (σ:=(Int×(List (zo×Bool)))) (τ:=(List (zo×Bool))⊕(Int)) (fun sb=>
cond (decide (sb.1<(zn p_0.1))) (Zb (idx p_0.1 sb.1) fun xb=>
Zb (iter (σ:=(Int×(List (zo×Bool)))) (τ:=(List (zo×Bool))⊕(Int×(List (zo×Bool)))) (fun sa=>
cond (decide (sa.1<(zn xb.2.2.1))) (Zb (idx xb.2.2.1 sa.1) fun xa=>
Zb (zR xa.1 0 (w64 ((zn p_0.2.1)-1))) fun yc=>
cond (!yc) (some (.inr (.inr (2,sa.2)))) (cond ((mget sa.2 xa).getD false) (some (.inr (.inr (2,sa.2)))) (Zb (zcG p_0 xa) fun yd=>
cond (yd !=sb.1) (some (.inr (.inr (2,sa.2)))) (some (.inl ((w64 (sa.1+1)),(mset sa.2 xa true))))))) (some (.inr (.inl sa.2)))) big (0,sb.2)) fun ta=>
alt (fun ba=>some (.inl ((w64 (sb.1+1)),ba))) (fun bb=>some (.inr (.inr bb.1))) ta) (some (.inr (.inl sb.2)))) big (0,([]:(List (zo×Bool))))) fun tb=>
alt (fun bc=>Zb (zug bc) fun xd=>
cond (xd !=(w64 (2*(zn p_0.2.1)))) (some 2) (some 0)) (fun bd=>some bd) tb))
def zaj (l_0:Line):Option (List Course):=
some ([l_0.1,l_0.2.1]:(List Course))
def zd0 (p_0:Plan):Option ((Option zbh)×Bool):=
Zb (zdx p_0) fun y1=>
cond (y1 !=0) (some ((none:Option zbh),false)) (Zb (iter (σ:=(Int×(List Int))) (τ:=(List Int)) (fun sc=>
cond (decide (sc.1<(zn p_0.2.1))) (Zb (idx p_0.2.1 sc.1) fun xb=>
Zb (zdZ p_0 xb) fun ya=>
Zb (iter (σ:=(Int×Int)) (τ:=Int) (fun sa=>
cond (decide (sa.2<(zn ya))) (Zb (idx ya (w64 (sa.2-1))) fun xd=>
Zb (idx ya sa.2) fun xe=>
Zb (zcU xd xe) fun yb=>
some (.inl ((w64 (sa.1+yb)),(w64 (sa.2+1))))) (some (.inr sa.1))) big (0,1)) fun ta=>
Zb (zdQ 8 sc.2 ([ta])) fun xf=>
some (.inl ((w64 (sc.1+1)),xf))) (some (.inr sc.2))) big (0,[])) fun tb=>
Zb (iter (σ:=(Int×(List (zo×Int)))) (τ:=(List (zo×Int))) (fun sd=>
cond (decide (sd.1<(zn p_0.1))) (Zb (idx p_0.1 sd.1) fun xa=>
Zb (iter (σ:=(Int×(List (zo×Int)))) (τ:=(List (zo×Int))) (fun sb=>
cond (decide (sb.1<(zn xa.2.2.1))) (Zb (idx xa.2.2.1 sb.1) fun xg=>
some (.inl ((w64 (sb.1+1)),(mset sb.2 xg sb.1)))) (some (.inr sb.2))) big (0,sd.2)) fun tc=>
some (.inl ((w64 (sd.1+1)),tc))) (some (.inr sd.2))) big (0,([]:(List (zo×Int))))) fun td=>
some ((some ((p_0.1,p_0.2.1,()),tb,td,())),true))
def zbD (n_0:zbh) (m_1:zG):Option (Bool):=
Zb (zR m_1.1 0 (w64 ((zn n_0.1.2.1)-1))) fun y2=>
some y2
def zef (m_0:zG):Option (zo):=
some ((m_0.1,(!m_0.2.1),()):zo)
def zfA (p_0:zaC) (from_1:Int) (to_2:Int):Option (Bool):=
some false
def zeT (p_0:zaC) (from_1:Int) (to_2:Int):Option (Bool):=
some (from_1 !=to_2)
def zbT (p_0:zaC) (from_1:Int) (to_2:Int):Option (Bool):=
Zb (cond (from_1 !=to_2) (Zb (zos (w64 (from_1+to_2)) 2) fun x5=>
some (x5==0)) (some false)) fun c3=>
some c3
def zcj (p_0:zaC) (from_1:Int) (to_2:Int):Option (Bool):=
Zb (cond (from_1 !=to_2) (cond (from_1==0) (some true) (some (to_2==0))) (some false)) fun c3=>
some c3
def zby (x_0:zaC) (from_1:Int) (to_2:Int):Option (Bool):=
Zb (cond (from_1 !=0) (cond (to_2==0) (some true) (cond (from_1==0) (some (to_2==x_0.1.2.2.2.1)) (some false))) (cond (from_1==0) (some (to_2==x_0.1.2.2.2.1)) (some false))) fun c5=>
some c5
def zbz (x_0:zaC) (from_1:Int) (to_2:Int):Option (Bool):=
Zb (cond (from_1==0) (cond (to_2==x_0.1.2.2.2.1) (some true) (cond (from_1==x_0.1.2.2.2.1) (some (to_2==0)) (some false))) (cond (from_1==x_0.1.2.2.2.1) (some (to_2==0)) (some false))) fun c5=>
some c5
def zbm (x_0:zaC) (from_1:Int) (to_2:Int):Option (Bool):=
Zb (idx (List.replicate 1 (fun _=>none)++([(fun x=>zfA x.1 x.2.1 x.2.2),(fun x=>zeT x.1 x.2.1 x.2.2),(fun x=>zbT x.1 x.2.1 x.2.2),(fun x=>zcj x.1 x.2.1 x.2.2),(fun x=>zby x.1 x.2.1 x.2.2),(fun x=>zbz x.1 x.2.1 x.2.2)]:(List ((zaC×Int×Int)->Option Bool)))) x_0.1.2.1) fun x4=>
Zb (x4 (x_0,from_1,to_2)) fun y5=>
some y5
def zdI (m_0:zG):Option (Int):=
cond m_0.2.1 (some (w64 ((w64 (2*m_0.1))+1))) (some (w64 (2*m_0.1)))
def zdk (x_0:Int):Option (Bool):=
some (x_0 !=x_0)
def za2 (x_0:Int) (y_1:Int):Option (Bool):=
Zb (Zb (zdk x_0) fun y6=>
cond y6 (Zb (zdk y_1) fun y8=>
cond (!y8) (some true) (some (decide (x_0<y_1)))) (some (decide (x_0<y_1)))) fun c5=>
some c5
def zY   (data_0:(List Int)) (a_1:Int) (b_2:Int):Option (List Int):=
Zb (iter (σ:=(Int×(List Int))) (τ:=(List Int)) (fun sb=>
cond (decide (sb.1<b_2)) (Zb (iter (σ:=(Int×(List Int))) (τ:=(List Int)) (fun sa=>
cond (decide (sa.1>a_1)) (Zb (idx sa.2 sa.1) fun xb=>
Zb (idx sa.2 (w64 (sa.1-1))) fun xd=>
Zb (za2 xb xd) fun ya=>
cond ya (Zb (idx sa.2 (w64 (sa.1-1))) fun xa=>
Zb (idx sa.2 sa.1) fun xe=>
Zb (idx sa.2 sa.1) fun xf=>
Zb (idx ((sa.2).set (Int.toNat sa.1) xa) (w64 (sa.1-1))) fun xg=>
some (.inl ((w64 (sa.1-1)),((sa.2).set (Int.toNat sa.1) xa).set (Int.toNat (w64 (sa.1-1))) xe))) (some (.inr sa.2))) (some (.inr sa.2))) big (sb.1,sb.2)) fun ta=>
some (.inl ((w64 (sb.1+1)),ta))) (some (.inr sb.2))) big ((w64 (a_1+1)),data_0)) fun tb=>
some tb
def zeA (x_0:Int):Option (Int):=
cond (decide (x_0≥4294967296)) (Zb (zot .u64 x_0 32) fun x2=>
cond (decide (x2≥65536)) (Zb (zot .u64 x2 16) fun x4=>
cond (decide (x4≥256)) (Zb (zot .u64 x4 8) fun x6=>
Zb (idx zdF (IntKind.u8.wrap x6)) fun x7=>
some (w64 ((w64 ((w64 (32+16))+8))+(w64 x7)))) (Zb (idx zdF (IntKind.u8.wrap x4)) fun x8=>
some (w64 ((w64 (32+16))+(w64 x8))))) (cond (decide (x2≥256)) (Zb (zot .u64 x2 8) fun xb=>
Zb (idx zdF (IntKind.u8.wrap xb)) fun xd=>
some (w64 ((w64 (32+8))+(w64 xd)))) (Zb (idx zdF (IntKind.u8.wrap x2)) fun xe=>
some (w64 (32+(w64 xe)))))) (cond (decide (x_0≥65536)) (Zb (zot .u64 x_0 16) fun xa=>
cond (decide (xa≥256)) (Zb (zot .u64 xa 8) fun xf=>
Zb (idx zdF (IntKind.u8.wrap xf)) fun xg=>
some (w64 ((w64 ((w64 (0+16))+8))+(w64 xg)))) (Zb (idx zdF (IntKind.u8.wrap xa)) fun xh=>
some (w64 ((w64 (0+16))+(w64 xh))))) (cond (decide (x_0≥256)) (Zb (zot .u64 x_0 8) fun xi=>
Zb (idx zdF (IntKind.u8.wrap xi)) fun xj=>
some (w64 ((w64 (0+8))+(w64 xj)))) (Zb (idx zdF (IntKind.u8.wrap x_0)) fun xk=>
some (w64 (0+(w64 xk))))))
def zeg (x_0:Int):Option (Int):=
Zb (zeA x_0) fun y2=>
some y2
def zbi   (data_0:(List Int)) (a_1:Int) (b_2:Int) (limit_3:Int):Option (List Int):=
Zb (iter (σ:=(Int×Int×Int×Bool×Bool×(List Int))) (τ:=(List Int)) (fun sa=>
cond (decide ((w64 (sa.2.1-sa.1))≤12)) (Zb (zY sa.2.2.2.2.2 sa.1 sa.2.1) fun ya=>
some (.inr ya)) (cond (sa.2.2.1==0) none (cond (!sa.2.2.2.1) none none))) big (a_1,b_2,limit_3,true,true,data_0)) fun ta=>
some ta
def zbU   (x_0:(List Int)):Option (List Int):=
Zb (zeg (IntKind.u64.wrap (zn x_0))) fun y1=>
Zb (zbi x_0 0 (zn x_0) y1) fun y2=>
some y2
def zeU (n_0:Int):Option (zG):=
Zb (zcb .i64 n_0 2) fun x2=>
Zb (zos n_0 2) fun x3=>
some ((x2,(x3==1),()):zG)
def zbA {σ τ:Type} (step:σ->(zG)->Option (σ⊕τ)) (s_:σ) (p_1:zbh) (p_2:zG):Option (σ⊕τ):=
Zb (zef p_2) fun y5=>
Zb (zcG p_1.1 y5) fun y6=>
Zb (idx p_1.1.1 y6) fun x7=>
Zb (iter (σ:=((List Int)×Int)) (τ:=(List Int)) (fun sa=>
cond (decide (sa.2<(zn x7.2.2.1))) (Zb (idx x7.2.2.1 sa.2) fun xa=>
Zb (zef p_2) fun yc=>
Zb (zbm ((x7,()):zaC) ((mget p_1.2.2.1 yc).getD 0) sa.2) fun yd=>
cond yd (Zb (zdI ((xa.1,xa.2.1,()):zG)) fun ye=>
Zb (zdQ 8 sa.1 ([ye])) fun xb=>
some (.inl (xb,(w64 (sa.2+1))))) (some (.inl (sa.1,(w64 (sa.2+1)))))) (some (.inr sa.1))) big ([],0)) fun ta=>
Zb (zbU ta) fun yb=>
Zb (iter (σ:=(Int×(σ⊕τ))) (τ:=(σ⊕τ)⊕(σ⊕τ)) (fun sb=>
cond (decide (sb.1<(zn yb))) (Zb (idx yb sb.1) fun xd=>
Zb (zeU xd) fun yf=>
Zb (goL sb.2) fun sc=>
Zb (step sc yf) fun ya=>
cond (!(ya).isLeft) (some (.inr (.inr ya))) (some (.inl ((w64 (sb.1+1)),ya)))) (some (.inr (.inl sb.2)))) big (0,(.inl s_))) fun tb=>
alt (fun ba=>some ba) (fun bb=>some bb) tb
def zcM (n_0:zbh) (m_1:zG):Option (zbh×zG):=
some (n_0,m_1)
def zaW (n_0:zbh) (m_1:zG) (k_2:zG):Option (Bool):=
Zb (zcM n_0 m_1) fun y2=>
Zb (zbA (σ:=Bool) (τ:=Bool) (fun s8 x3=>
cond (x3==k_2) (some (.inr true)) (some (.inl s8))) false y2.1 y2.2) fun ta=>
alt (fun bb=>some false) (fun ba=>some ba) ta
def zck (n_0:zbh) (l_1:(List zG)):Option (Bool):=
Zb (iter (σ:=Int) (τ:=Unit⊕(Bool)) (fun sa=>
cond (decide (sa<(zn l_1))) (Zb (idx l_1 sa) fun xa=>
Zb (zbD n_0 xa) fun ya=>
cond (!ya) (some (.inr (.inr false))) (cond (decide (sa>0)) (Zb (idx l_1 (w64 (sa-1))) fun xb=>
Zb (zaW n_0 xb xa) fun yb=>
cond (!yb) (some (.inr (.inr false))) (some (.inl (w64 (sa+1))))) (some (.inl (w64 (sa+1)))))) (some (.inr (.inl ())))) big 0) fun ta=>
alt (fun bb=>Zb (zR (zn l_1) 1 2000) fun yc=>
some yc) (fun ba=>some ba) ta
def za3 (n_0:zbh) (l_1:(List zG)):Option (Int):=
Zb (iter (σ:=(Int×Int)) (τ:=Int) (fun s6=>
cond (decide (s6.2<(zn l_1))) (Zb (idx l_1 s6.2) fun x9=>
Zb (idx n_0.2.1 x9.1) fun xa=>
some (.inl ((w64 (s6.1+xa)),(w64 (s6.2+1))))) (some (.inr s6.1))) big (0,0)) fun ta=>
some ta
def zcd (p_0:Plan) (way_1:(List zG)):Option (Int×Int):=
Zb (zd0 p_0) fun y1=>
Zb (cond (!y1.2) (some true) (Zb y1.1 fun p7=>
Zb (zck p7 way_1) fun y8=>
some (!y8))) fun c5=>
cond c5 (some (0,2)) (Zb y1.1 fun pa=>
Zb (za3 pa way_1) fun ya=>
some (ya,0))
def zS (n_0:Int) (low_1:Int) (high_2:Int):Option (Bool):=
Zb (cond (decide (n_0≥low_1)) (some (decide (n_0≤high_2))) (some false)) fun c2=>
some c2
def zbw (s_0:(List Int)) (f_1:((Int)->Option (Bool))):Option (Int):=
Zb (iter (σ:=Int) (τ:=Unit⊕(Int)) (fun s5=>
cond (decide (s5<(zn s_0))) (Zb (idx s_0 s5) fun x8=>
Zb (f_1 x8) fun y9=>
cond y9 (some (.inr (.inr s5))) (some (.inl (w64 (s5+1))))) (some (.inr (.inl ())))) big 0) fun ta=>
alt (fun bb=>some (-1)) (fun ba=>some ba) ta
def zaG (s_0:(List Int)) (f_1:((Int)->Option (Bool))):Option (Bool):=
Zb (zbw s_0 f_1) fun y1=>
some (decide (y1≥0))
def ze5 (g_0:Int):Option (Bool):=
Zb (zS g_0 1 1000) fun y1=>
some (!y1)
def zdJ (t_0:Train):Option (Int):=
Zb (Zb (zS t_0.1 1000 80000) fun ya=>
cond (!ya) (some true) (Zb (zS t_0.2.1 1 60000) fun yb=>
cond (!yb) (some true) (Zb (zS t_0.2.2.1 1 25000) fun yc=>
cond (!yc) (some true) (Zb (zS t_0.2.2.2.1 1 200000) fun yd=>
cond (!yd) (some true) (Zb (zS t_0.2.2.2.2.1 1 200000) fun ye=>
cond (!ye) (some true) (Zb (zS t_0.2.2.2.2.2.1 1 2000000) fun yf=>
cond (!yf) (some true) (Zb (zS t_0.2.2.2.2.2.2.1 0 100000) fun yg=>
cond (!yg) (some true) (Zb (zS t_0.2.2.2.2.2.2.2.1 0 10000) fun yh=>
cond (!yh) (some true) (Zb (zS t_0.2.2.2.2.2.2.2.2.1 0 100) fun yi=>
some (!yi)))))))))) fun ca=>
cond ca (some 2) (Zb (Zb (zS (zn t_0.2.2.2.2.2.2.2.2.2.1) 1 8) fun yj=>
cond (!yj) (some true) (Zb (zaG t_0.2.2.2.2.2.2.2.2.2.1 (fun x=>ze5 x)) fun yk=>
some yk)) fun cc=>
cond cc (some 2) (some 0))
def zdl (t_0:Train) (state_1:Int):Option ((Option zaq)×Bool):=
Zb (Zb (zdJ t_0) fun y5=>
cond (y5 !=0) (some true) (Zb (zS state_1 0 (w64 ((zn t_0.2.2.2.2.2.2.2.2.2.1)-1))) fun y7=>
some (!y7))) fun c4=>
cond c4 (some ((none:Option zaq),false)) (some ((some ((t_0,state_1,()):zaq)),true))
def zb8 (p_0:Plan) (rail_1:Int):Option (Int×Int):=
Zb (zd0 p_0) fun y1=>
Zb (cond (!y1.2) (some true) (Zb y1.1 fun p7=>
Zb (zbD p7 ((rail_1,false,()):zG)) fun y8=>
some (!y8))) fun c5=>
cond c5 (some (0,2)) (Zb y1.1 fun pa=>
Zb (idx pa.2.1 rail_1) fun xa=>
some (xa,0))
def zdK (p_0:Plan) (way_1:(List zG)) (t_2:Train) (state_3:Int) (stops_4:(List Int)):Option ((Option zaB)×Bool):=
Zb (zdl t_2 state_3) fun y1=>
Zb (zcd p_0 way_1) fun y2=>
Zb (cond (!y1.2) (some true) (cond (y2.2 !=0) (some true) (Zb (zS (zn stops_4) 2 100) fun yb=>
cond (!yb) (some true) (Zb (idx stops_4 0) fun xd=>
cond (decide (xd<t_2.2.1)) (some true) (Zb (idx stops_4 (w64 ((zn stops_4)-1))) fun xe=>
some (decide (xe>y2.1))))))) fun ca=>
cond ca (some ((none:Option zaB),false)) (Zb (iter (σ:=Int) (τ:=Unit⊕((Option zaB)×Bool)) (fun sb=>
cond (decide (sb<(zn stops_4))) (Zb (idx stops_4 sb) fun xf=>
Zb (idx stops_4 (w64 (sb-1))) fun xg=>
cond (decide (xf≤xg)) (some (.inr (.inr ((none:Option zaB),false)))) (some (.inl (w64 (sb+1))))) (some (.inr (.inl ())))) big 1) fun ta=>
alt (fun bd=>Zb y1.1 fun pa=>
Zb (iter (σ:=(Int×Int×(List Int)×(List Int)×(List Int))) (τ:=((List Int)×(List Int)×(List Int))⊕((Option zaB)×Bool×(List Int)×(List Int)×(List Int))) (fun sa=>
cond (decide (sa.2.1<(zn way_1))) (Zb (idx way_1 sa.2.1) fun xb=>
Zb (zb8 p_0 xb.1) fun ya=>
cond (ya.2 !=0) (some (.inr (.inr ((none:Option zaB),false,sa.2.2.2.2,sa.2.2.2.1,sa.2.2.1)))) (Zb (idx p_0.2.1 xb.1) fun xa=>
cond xb.2.1 (Zb (zdQ 8 sa.2.2.2.2 ([(w64 (sa.1+ya.1))])) fun xh=>
Zb (zdQ 8 sa.2.2.2.1 ([xa.2.2.2.1])) fun xi=>
Zb (zdQ 8 sa.2.2.1 ([(w64 (0-xa.2.2.2.2.1))])) fun xj=>
some (.inl ((w64 (sa.1+ya.1)),(w64 (sa.2.1+1)),xj,xi,xh))) (Zb (zdQ 8 sa.2.2.2.2 ([(w64 (sa.1+ya.1))])) fun xk=>
Zb (zdQ 8 sa.2.2.2.1 ([xa.2.2.2.1])) fun xl=>
Zb (zdQ 8 sa.2.2.1 ([xa.2.2.2.2.1])) fun xm=>
some (.inl ((w64 (sa.1+ya.1)),(w64 (sa.2.1+1)),xm,xl,xk))))) (some (.inr (.inl (sa.2.2.2.2,sa.2.2.2.1,sa.2.2.1))))) big (0,0,[],[],[])) fun tb=>
alt (fun ba=>some ((some (pa,way_1,ba.1,ba.2.1,ba.2.2,stops_4,())),true)) (fun bb=>some (bb.1,bb.2.1)) tb) (fun bc=>some (bc.1,bc.2)) ta)
def zW (m_0:zaq) (x_1:zb):Option (Int):=
Zb (zcb .i64 x_1.2.1 (w64 (10*m_0.1.1))) fun x2=>
some x2
def zda (x_0:Int):Option (Bool):=
some (x_0 !=x_0)
def zH (x_0:(List Int)) (target_1:Int):Option (Int×Bool):=
Zb (iter (σ:=(Int×Int)) (τ:=Int) (fun s6=>
cond (decide (s6.1<s6.2)) (Zb (zot .u64 (IntKind.u64.wrap (w64 (s6.1+s6.2))) 1) fun x9=>
Zb (idx x_0 (w64 x9)) fun xa=>
Zb (za2 xa target_1) fun ya=>
cond ya (some (.inl ((w64 ((w64 x9)+1)),s6.2))) (some (.inl (s6.1,(w64 x9))))) (some (.inr s6.1))) big (0,(zn x_0))) fun ta=>
Zb (cond (decide (ta<(zn x_0))) (Zb (idx x_0 ta) fun xb=>
cond (xb==target_1) (some (ta,true)) (Zb (idx x_0 ta) fun xd=>
Zb (zda xd) fun yb=>
cond yb (Zb (zda target_1) fun yc=>
some (ta,yc)) (some (ta,false)))) (some (ta,false))) fun ca=>
some (ca.1,ca.2)
def zaO (r_0:zaB) (x_1:zb):Option (Int):=
Zb (zW r_0.1 x_1) fun y2=>
Zb (zH r_0.2.2.1 (w64 (y2+1))) fun y3=>
Zb (idx r_0.2.2.2.2.1 (min y3.1 (w64 ((zn r_0.2.2.2.2.1)-1)))) fun x5=>
some x5
def zbj (m_0:zaq):Option (Int):=
Zb (idx m_0.1.2.2.2.2.2.2.2.2.2.1 m_0.2.1) fun x3=>
Zb (zcb .i64 (w64 ((w64 (x3*m_0.1.1))*981)) 100000) fun x4=>
some x4
def za7 (m_0:zaq) (v_1:Int) (demand_2:Int) (slope_3:Int):Option (Int):=
cond (decide (demand_2≤0)) (some 0) (Zb (zcb .i64 (w64 (m_0.1.2.2.2.1*demand_2)) 4) fun x4=>
Zb (zbj m_0) fun y5=>
cond (decide (v_1>0)) (Zb (zcb .i64 (w64 (1000*m_0.1.2.2.2.2.2.1)) v_1) fun x7=>
some (min (min x4 y5) x7)) (some (min x4 y5)))
def za0 (m_0:zaq) (v_1:Int) (demand_2:Int) (slope_3:Int):Option (Int):=
cond (decide (demand_2≥0)) (some 0) (Zb (zcb .i64 (w64 (m_0.1.2.2.2.2.1*(w64 (0-demand_2)))) 4) fun x4=>
Zb (zbj m_0) fun y5=>
some (min x4 y5))
def zbE (m_0:zaq) (v_1:Int) (demand_2:Int) (slope_3:Int):Option (Int):=
Zb (zcb .i64 (w64 (m_0.1.2.2.2.2.2.2.2.1*v_1)) 1000) fun x2=>
some (w64 (m_0.1.2.2.2.2.2.2.1+x2))
def zbF (m_0:zaq) (v_1:Int) (demand_2:Int) (slope_3:Int):Option (Int):=
Zb (zcb .i64 (w64 ((w64 (m_0.1.1*slope_3))*981)) 100000) fun x1=>
some x1
def zcv (m_0:zaq) (v_1:Int) (demand_2:Int) (slope_3:Int):Option (List Int):=
Zb (iter (σ:=(Int×(List Int))) (τ:=(List Int)) (fun sa=>
cond (decide (sa.1<4)) (Zb (idx ([(fun x=>za7 m_0 x.1 x.2.1 x.2.2),(fun x=>za0 m_0 x.1 x.2.1 x.2.2),(fun x=>zbE m_0 x.1 x.2.1 x.2.2),(fun x=>zbF m_0 x.1 x.2.1 x.2.2)]:(List ((Int×Int×Int)->Option Int))) sa.1) fun xa=>
Zb (xa (v_1,demand_2,slope_3)) fun ya=>
Zb (idx sa.2 sa.1) fun xb=>
some (.inl ((w64 (sa.1+1)),(sa.2).set (Int.toNat sa.1) ya))) (some (.inr sa.2))) big (0,(List.replicate 4 (0:Int)))) fun ta=>
some ta
def zbn (m_0:zaq) (x_1:zb):Option (Int):=
Zb (zcb .i64 x_1.1 m_0.1.1) fun x2=>
some x2
def zaE (m_0:zaq) (x_1:zb) (demand_2:Int) (slope_3:Int):Option (zbg×Bool):=
Zb (zbn m_0 x_1) fun y2=>
Zb (zcv m_0 y2 demand_2 slope_3) fun y3=>
Zb (idx y3 0) fun x5=>
Zb (idx y3 1) fun x6=>
Zb (idx y3 2) fun x7=>
Zb (idx y3 3) fun x8=>
Zb (cond (decide ((w64 (x_1.1+(w64 (100*(w64 ((w64 ((w64 (x5-x6))-x7))-x8))))))<0)) (some true) (cond (x_1.1==0) (some (decide ((w64 ((w64 ((w64 (x5-x6))-x7))-x8))≤0))) (some false))) fun ca=>
cond ca (Zb (idx y3 0) fun xa=>
Zb (idx y3 1) fun xb=>
Zb (idx y3 2) fun xd=>
Zb (idx y3 3) fun xe=>
Zb (idx y3 0) fun xf=>
Zb (zcb .i64 (w64 ((w64 ((w64 (xf*0))+(w64 (1000*m_0.1.1))))-1)) (w64 (1000*m_0.1.1))) fun xg=>
Zb (idx y3 1) fun xh=>
Zb (zcb .i64 (w64 ((w64 (xh*0))*m_0.1.2.2.2.2.2.2.2.2.1)) (w64 (100000*m_0.1.1))) fun xi=>
some (((0,(w64 (x_1.2.1+0)),()),((w64 ((w64 (200*xa))*0)),(w64 ((w64 (200*xb))*0)),(w64 ((w64 (200*xd))*0)),(w64 ((w64 (200*xe))*0)),0,(w64 (x_1.1*x_1.1)),()),xg,xi,()),(decide (0≤(w64 (25000*m_0.1.1)))))) (Zb (idx y3 0) fun xj=>
Zb (idx y3 1) fun xk=>
Zb (idx y3 2) fun xl=>
Zb (idx y3 3) fun xm=>
Zb (idx y3 0) fun xn=>
Zb (zcb .i64 (w64 ((w64 ((w64 (xn*(w64 (x_1.1+(w64 (100*(w64 ((w64 ((w64 (x5-x6))-x7))-x8))))))))+(w64 (1000*m_0.1.1))))-1)) (w64 (1000*m_0.1.1))) fun xo=>
Zb (idx y3 1) fun xp=>
Zb (zcb .i64 (w64 ((w64 (xp*(w64 (x_1.1+(w64 (100*(w64 ((w64 ((w64 (x5-x6))-x7))-x8))))))))*m_0.1.2.2.2.2.2.2.2.2.1)) (w64 (100000*m_0.1.1))) fun xq=>
some ((((w64 (x_1.1+(w64 (100*(w64 ((w64 ((w64 (x5-x6))-x7))-x8)))))),(w64 (x_1.2.1+(w64 (x_1.1+(w64 (100*(w64 ((w64 ((w64 (x5-x6))-x7))-x8)))))))),()),((w64 ((w64 (200*xj))*(w64 (x_1.1+(w64 (100*(w64 ((w64 ((w64 (x5-x6))-x7))-x8)))))))),(w64 ((w64 (200*xk))*(w64 (x_1.1+(w64 (100*(w64 ((w64 ((w64 (x5-x6))-x7))-x8)))))))),(w64 ((w64 (200*xl))*(w64 (x_1.1+(w64 (100*(w64 ((w64 ((w64 (x5-x6))-x7))-x8)))))))),(w64 ((w64 (200*xm))*(w64 (x_1.1+(w64 (100*(w64 ((w64 ((w64 (x5-x6))-x7))-x8)))))))),(w64 ((w64 (10000*(w64 ((w64 ((w64 (x5-x6))-x7))-x8))))*(w64 ((w64 ((w64 (x5-x6))-x7))-x8)))),0,()),xo,xq,()),(decide ((w64 (x_1.1+(w64 (100*(w64 ((w64 ((w64 (x5-x6))-x7))-x8))))))≤(w64 (25000*m_0.1.1))))))
def zcw (r_0:zaB) (x_1:zb):Option (Int):=
Zb (zW r_0.1 x_1) fun y2=>
Zb (zH r_0.2.2.1 (w64 ((w64 (y2-r_0.1.1.2.1))+1))) fun y3=>
Zb (iter (σ:=(Int×Int)) (τ:=Int) (fun s8=>
cond (decide (s8.2<(zn r_0.2.2.1))) (Zb (idx r_0.2.2.2.1 s8.2) fun xa=>
Zb (idx r_0.2.2.1 s8.2) fun xb=>
cond (decide (xb≥y2)) (some (.inr (min s8.1 xa))) (some (.inl ((min s8.1 xa),(w64 (s8.2+1)))))) (some (.inr s8.1))) big (r_0.1.1.2.2.1,y3.1)) fun ta=>
some ta
def zbG (r_0:zaB) (x_1:zb) (stop_2:Int):Option (Bool):=
Zb (Zb (zW r_0.1 x_1) fun ya=>
cond (decide (ya≤stop_2)) (Zb (zbn r_0.1 x_1) fun yb=>
Zb (zcw r_0 x_1) fun yc=>
some (decide (yb≤yc))) (some false)) fun c9=>
some c9
def za4 {σ τ:Type} (step:σ->(zb)->Option (σ⊕τ)) (s_:σ) (p_1:zb) (p_2:zaq) (p_3:((zb)->Option (Int))):Option ((σ⊕τ)×zb):=
Zb (iter (σ:=(Int×(σ⊕τ)×Int×Int)) (τ:=((σ⊕τ)×Int×Int)⊕((σ⊕τ)×Int×Int)) (fun sa=>
cond (decide (sa.1<36000)) (cond (sa.2.2.1==0) (some (.inr (.inr (sa.2.1,sa.2.2.1,sa.2.2.2)))) (Zb (p_3 (sa.2.2.1,sa.2.2.2,())) fun yc=>
Zb (zaE p_2 (sa.2.2.1,sa.2.2.2,()) (-4) yc) fun ya=>
cond (!ya.2) (some (.inr (.inr (sa.2.1,sa.2.2.1,sa.2.2.2)))) (Zb (goL sa.2.1) fun sb=>
Zb (step sb ya.1.1) fun yb=>
cond (!(yb).isLeft) (some (.inr (.inr (yb,ya.1.1.1,ya.1.1.2.1)))) (some (.inl ((w64 (sa.1+1)),yb,ya.1.1.1,ya.1.1.2.1)))))) (some (.inr (.inl (sa.2.1,sa.2.2.1,sa.2.2.2))))) big (0,(.inl s_),p_1.1,p_1.2.1)) fun ta=>
alt (fun ba=>some (ba.1,(ba.2.1,ba.2.2,()))) (fun bb=>some (bb.1,(bb.2.1,bb.2.2,()))) ta
def zb6 (m_0:zaq) (x_1:zb) (slope_2:((zb)->Option (Int))):Option (zb×zaq×((zb)->Option (Int))):=
some (x_1,m_0,slope_2)
def zce (r_0:zaB) (x_1:zb) (stop_2:Int):Option (Bool):=
Zb (zbG r_0 x_1 stop_2) fun y2=>
cond (!y2) (some false) (Zb (zb6 r_0.1 x_1 (fun x=>zaO r_0 x)) fun y7=>
Zb (za4 (σ:=(Int×Int)) (τ:=(Int×Int)) (fun sa x9=>
Zb (zbG r_0 x9 stop_2) fun ya=>
cond (!ya) (some (.inr (sa.1,sa.2))) (some (.inl (x9.1,x9.2.1)))) (x_1.1,x_1.2.1) y7.1 y7.2.1 y7.2.2) fun ta=>
alt (fun ba=>some (ba.1==0)) (fun bb=>some false) ta.1)
def zaS (r_0:zaB) (x_1:zb) (stop_2:Int):Option (zbg×Bool):=
Zb (zaO r_0 x_1) fun y2=>
Zb (iter (σ:=(Bool×Int×Int×Int×Int×Int×Int×Int×Int×Int×Int×Int)) (τ:=(Bool×Int×Int×Int×Int×Int×Int×Int×Int×Int×Int)) (fun sa=>
cond (decide (sa.2.1<9)) (Zb (zaE r_0.1 x_1 (w64 (4-sa.2.1)) y2) fun ya=>
cond ya.2 (Zb (zce r_0 ya.1.1 stop_2) fun yb=>
cond yb (some (.inr (true,ya.1.1.1,ya.1.1.2.1,ya.1.2.1.1,ya.1.2.1.2.1,ya.1.2.1.2.2.1,ya.1.2.1.2.2.2.1,ya.1.2.1.2.2.2.2.1,ya.1.2.1.2.2.2.2.2.1,ya.1.2.2.1,ya.1.2.2.2.1))) (some (.inl (sa.1,(w64 (sa.2.1+1)),sa.2.2.1,sa.2.2.2.1,sa.2.2.2.2.1,sa.2.2.2.2.2.1,sa.2.2.2.2.2.2.1,sa.2.2.2.2.2.2.2.1,sa.2.2.2.2.2.2.2.2.1,sa.2.2.2.2.2.2.2.2.2.1,sa.2.2.2.2.2.2.2.2.2.2.1,sa.2.2.2.2.2.2.2.2.2.2.2)))) (some (.inl (sa.1,(w64 (sa.2.1+1)),sa.2.2.1,sa.2.2.2.1,sa.2.2.2.2.1,sa.2.2.2.2.2.1,sa.2.2.2.2.2.2.1,sa.2.2.2.2.2.2.2.1,sa.2.2.2.2.2.2.2.2.1,sa.2.2.2.2.2.2.2.2.2.1,sa.2.2.2.2.2.2.2.2.2.2.1,sa.2.2.2.2.2.2.2.2.2.2.2)))) (some (.inr (sa.1,sa.2.2.1,sa.2.2.2.1,sa.2.2.2.2.1,sa.2.2.2.2.2.1,sa.2.2.2.2.2.2.1,sa.2.2.2.2.2.2.2.1,sa.2.2.2.2.2.2.2.2.1,sa.2.2.2.2.2.2.2.2.2.1,sa.2.2.2.2.2.2.2.2.2.2.1,sa.2.2.2.2.2.2.2.2.2.2.2)))) big (false,0,0,0,0,0,0,0,0,0,0,0)) fun ta=>
some (((ta.2.1,ta.2.2.1,()),(ta.2.2.2.1,ta.2.2.2.2.1,ta.2.2.2.2.2.1,ta.2.2.2.2.2.2.1,ta.2.2.2.2.2.2.2.1,ta.2.2.2.2.2.2.2.2.1,()),ta.2.2.2.2.2.2.2.2.2.1,ta.2.2.2.2.2.2.2.2.2.2,()),ta.1)
def zcV (l_0:(List z6)):Option (z6):=
Zb (iter (σ:=(Int×Int×Int×Int×Int×Int×Int)) (τ:=(Int×Int×Int×Int×Int×Int)) (fun s9=>
cond (decide (s9.1<(zn l_0))) (Zb (idx l_0 s9.1) fun xa=>
some (.inl ((w64 (s9.1+1)),(w64 (s9.2.1+xa.1)),(w64 (s9.2.2.1+xa.2.1)),(w64 (s9.2.2.2.1+xa.2.2.1)),(w64 (s9.2.2.2.2.1+xa.2.2.2.1)),(w64 (s9.2.2.2.2.2.1+xa.2.2.2.2.1)),(w64 (s9.2.2.2.2.2.2+xa.2.2.2.2.2.1))))) (some (.inr (s9.2.1,s9.2.2.1,s9.2.2.2.1,s9.2.2.2.2.1,s9.2.2.2.2.2.1,s9.2.2.2.2.2.2)))) big (0,0,0,0,0,0,0)) fun ta=>
some (ta.1,ta.2.1,ta.2.2.1,ta.2.2.2.1,ta.2.2.2.2.1,ta.2.2.2.2.2,())
def zbt (r_0:zaB) (x_1:zb) (stop_2:Int):Option (Leg×zb×Bool):=
Zb (iter (σ:=(Int×Int×Int×Int×Int×Int×Int×Int×Int×Int×Int×Int×Int×Int×Int×Int×Int×Int×Int×Int×Int×Int×Int×Int×Int)) (τ:=(Bool×Int×Int×Int×Int×Int×Int×Int×Int×Int×Int×Int×Int×Int×Int×Int×Int×Int×Int×Int×Int×Int×Int×Int×Int)) (fun sa=>
Zb (zW r_0.1 (sa.2.2.2.2.2.2.2.2.2.2.2.2.2.2.1,sa.2.2.2.2.2.2.2.2.2.2.2.2.2.2.2.1,())) fun ye=>
cond (sa.2.2.2.2.2.2.2.2.2.2.2.2.2.2.1==0) (Zb (zS (w64 (stop_2-ye)) 0 1000) fun yf=>
cond yf (some (.inr (true,ye,sa.2.2.2.2.2.2.2.2.2.2.2.2.2.2.1,sa.2.2.2.2.2.2.2.2.2.2.2.2.2.2.2.1,sa.2.1,ye,sa.2.2.2.1,sa.2.2.2.2.1,sa.2.2.2.2.2.1,sa.2.2.2.2.2.2.1,sa.2.2.2.2.2.2.2.1,sa.2.2.2.2.2.2.2.2.1,sa.2.2.2.2.2.2.2.2.2.1,sa.2.2.2.2.2.2.2.2.2.2.1,sa.2.1,sa.2.2.2.1,sa.2.2.2.2.1,sa.2.2.2.2.2.1,sa.2.2.2.2.2.2.1,sa.2.2.2.2.2.2.2.1,sa.2.2.2.2.2.2.2.2.1,sa.2.2.2.2.2.2.2.2.2.1,sa.2.2.2.2.2.2.2.2.2.2.1,sa.2.2.2.2.2.2.2.2.2.2.2.2.2.2.1,sa.2.2.2.2.2.2.2.2.2.2.2.2.2.2.2.1))) (cond (sa.1==36000) (some (.inr (false,sa.2.2.1,sa.2.2.2.2.2.2.2.2.2.2.2.2.2.2.1,sa.2.2.2.2.2.2.2.2.2.2.2.2.2.2.2.1,sa.2.1,sa.2.2.1,sa.2.2.2.1,sa.2.2.2.2.1,sa.2.2.2.2.2.1,sa.2.2.2.2.2.2.1,sa.2.2.2.2.2.2.2.1,sa.2.2.2.2.2.2.2.2.1,sa.2.2.2.2.2.2.2.2.2.1,sa.2.2.2.2.2.2.2.2.2.2.1,sa.2.1,sa.2.2.2.1,sa.2.2.2.2.1,sa.2.2.2.2.2.1,sa.2.2.2.2.2.2.1,sa.2.2.2.2.2.2.2.1,sa.2.2.2.2.2.2.2.2.1,sa.2.2.2.2.2.2.2.2.2.1,sa.2.2.2.2.2.2.2.2.2.2.1,sa.2.2.2.2.2.2.2.2.2.2.2.2.2.2.1,sa.2.2.2.2.2.2.2.2.2.2.2.2.2.2.2.1))) (Zb (zaS r_0 (sa.2.2.2.2.2.2.2.2.2.2.2.2.2.2.1,sa.2.2.2.2.2.2.2.2.2.2.2.2.2.2.2.1,()) stop_2) fun ya=>
cond (!ya.2) (some (.inr (false,sa.2.2.1,sa.2.2.2.2.2.2.2.2.2.2.2.2.2.2.1,sa.2.2.2.2.2.2.2.2.2.2.2.2.2.2.2.1,sa.2.1,sa.2.2.1,sa.2.2.2.1,sa.2.2.2.2.1,sa.2.2.2.2.2.1,sa.2.2.2.2.2.2.1,sa.2.2.2.2.2.2.2.1,sa.2.2.2.2.2.2.2.2.1,sa.2.2.2.2.2.2.2.2.2.1,sa.2.2.2.2.2.2.2.2.2.2.1,sa.2.1,sa.2.2.2.1,sa.2.2.2.2.1,sa.2.2.2.2.2.1,sa.2.2.2.2.2.2.1,sa.2.2.2.2.2.2.2.1,sa.2.2.2.2.2.2.2.2.1,sa.2.2.2.2.2.2.2.2.2.1,sa.2.2.2.2.2.2.2.2.2.2.1,sa.2.2.2.2.2.2.2.2.2.2.2.2.2.2.1,sa.2.2.2.2.2.2.2.2.2.2.2.2.2.2.2.1))) (cond (decide (ya.1.1.2.1>10000000000000000)) (some (.inr (false,sa.2.2.1,sa.2.2.2.2.2.2.2.2.2.2.2.2.2.2.1,sa.2.2.2.2.2.2.2.2.2.2.2.2.2.2.2.1,sa.2.1,sa.2.2.1,sa.2.2.2.1,sa.2.2.2.2.1,sa.2.2.2.2.2.1,sa.2.2.2.2.2.2.1,sa.2.2.2.2.2.2.2.1,sa.2.2.2.2.2.2.2.2.1,sa.2.2.2.2.2.2.2.2.2.1,sa.2.2.2.2.2.2.2.2.2.2.1,sa.2.1,sa.2.2.2.1,sa.2.2.2.2.1,sa.2.2.2.2.2.1,sa.2.2.2.2.2.2.1,sa.2.2.2.2.2.2.2.1,sa.2.2.2.2.2.2.2.2.1,sa.2.2.2.2.2.2.2.2.2.1,sa.2.2.2.2.2.2.2.2.2.2.1,sa.2.2.2.2.2.2.2.2.2.2.2.2.2.2.1,sa.2.2.2.2.2.2.2.2.2.2.2.2.2.2.2.1))) (Zb (zcV ([(sa.2.2.2.1,sa.2.2.2.2.1,sa.2.2.2.2.2.1,sa.2.2.2.2.2.2.1,sa.2.2.2.2.2.2.2.1,sa.2.2.2.2.2.2.2.2.1,()),ya.1.2.1])) fun yc=>
some (.inl ((w64 (sa.1+1)),(w64 (sa.2.1+100)),sa.2.2.1,yc.1,yc.2.1,yc.2.2.1,yc.2.2.2.1,yc.2.2.2.2.1,yc.2.2.2.2.2.1,(max sa.2.2.2.2.2.2.2.2.2.1 ya.1.2.2.1),(max sa.2.2.2.2.2.2.2.2.2.2.1 ya.1.2.2.2.1),sa.2.2.2.2.2.2.2.2.2.2.2.1,sa.2.2.2.2.2.2.2.2.2.2.2.2.1,sa.2.2.2.2.2.2.2.2.2.2.2.2.2.1,ya.1.1.1,ya.1.1.2.1,sa.2.2.2.2.2.2.2.2.2.2.2.2.2.2.2.2.1,sa.2.2.2.2.2.2.2.2.2.2.2.2.2.2.2.2.2.1,sa.2.2.2.2.2.2.2.2.2.2.2.2.2.2.2.2.2.2.1,sa.2.2.2.2.2.2.2.2.2.2.2.2.2.2.2.2.2.2.2.1,sa.2.2.2.2.2.2.2.2.2.2.2.2.2.2.2.2.2.2.2.2.1,sa.2.2.2.2.2.2.2.2.2.2.2.2.2.2.2.2.2.2.2.2.2.1,sa.2.2.2.2.2.2.2.2.2.2.2.2.2.2.2.2.2.2.2.2.2.2.1,sa.2.2.2.2.2.2.2.2.2.2.2.2.2.2.2.2.2.2.2.2.2.2.2.1,sa.2.2.2.2.2.2.2.2.2.2.2.2.2.2.2.2.2.2.2.2.2.2.2.2))))))) (cond (sa.1==36000) (some (.inr (false,sa.2.2.1,sa.2.2.2.2.2.2.2.2.2.2.2.2.2.2.1,sa.2.2.2.2.2.2.2.2.2.2.2.2.2.2.2.1,sa.2.1,sa.2.2.1,sa.2.2.2.1,sa.2.2.2.2.1,sa.2.2.2.2.2.1,sa.2.2.2.2.2.2.1,sa.2.2.2.2.2.2.2.1,sa.2.2.2.2.2.2.2.2.1,sa.2.2.2.2.2.2.2.2.2.1,sa.2.2.2.2.2.2.2.2.2.2.1,sa.2.1,sa.2.2.2.1,sa.2.2.2.2.1,sa.2.2.2.2.2.1,sa.2.2.2.2.2.2.1,sa.2.2.2.2.2.2.2.1,sa.2.2.2.2.2.2.2.2.1,sa.2.2.2.2.2.2.2.2.2.1,sa.2.2.2.2.2.2.2.2.2.2.1,sa.2.2.2.2.2.2.2.2.2.2.2.2.2.2.1,sa.2.2.2.2.2.2.2.2.2.2.2.2.2.2.2.1))) (Zb (zaS r_0 (sa.2.2.2.2.2.2.2.2.2.2.2.2.2.2.1,sa.2.2.2.2.2.2.2.2.2.2.2.2.2.2.2.1,()) stop_2) fun yb=>
cond (!yb.2) (some (.inr (false,sa.2.2.1,sa.2.2.2.2.2.2.2.2.2.2.2.2.2.2.1,sa.2.2.2.2.2.2.2.2.2.2.2.2.2.2.2.1,sa.2.1,sa.2.2.1,sa.2.2.2.1,sa.2.2.2.2.1,sa.2.2.2.2.2.1,sa.2.2.2.2.2.2.1,sa.2.2.2.2.2.2.2.1,sa.2.2.2.2.2.2.2.2.1,sa.2.2.2.2.2.2.2.2.2.1,sa.2.2.2.2.2.2.2.2.2.2.1,sa.2.1,sa.2.2.2.1,sa.2.2.2.2.1,sa.2.2.2.2.2.1,sa.2.2.2.2.2.2.1,sa.2.2.2.2.2.2.2.1,sa.2.2.2.2.2.2.2.2.1,sa.2.2.2.2.2.2.2.2.2.1,sa.2.2.2.2.2.2.2.2.2.2.1,sa.2.2.2.2.2.2.2.2.2.2.2.2.2.2.1,sa.2.2.2.2.2.2.2.2.2.2.2.2.2.2.2.1))) (cond (decide (yb.1.1.2.1>10000000000000000)) (some (.inr (false,sa.2.2.1,sa.2.2.2.2.2.2.2.2.2.2.2.2.2.2.1,sa.2.2.2.2.2.2.2.2.2.2.2.2.2.2.2.1,sa.2.1,sa.2.2.1,sa.2.2.2.1,sa.2.2.2.2.1,sa.2.2.2.2.2.1,sa.2.2.2.2.2.2.1,sa.2.2.2.2.2.2.2.1,sa.2.2.2.2.2.2.2.2.1,sa.2.2.2.2.2.2.2.2.2.1,sa.2.2.2.2.2.2.2.2.2.2.1,sa.2.1,sa.2.2.2.1,sa.2.2.2.2.1,sa.2.2.2.2.2.1,sa.2.2.2.2.2.2.1,sa.2.2.2.2.2.2.2.1,sa.2.2.2.2.2.2.2.2.1,sa.2.2.2.2.2.2.2.2.2.1,sa.2.2.2.2.2.2.2.2.2.2.1,sa.2.2.2.2.2.2.2.2.2.2.2.2.2.2.1,sa.2.2.2.2.2.2.2.2.2.2.2.2.2.2.2.1))) (Zb (zcV ([(sa.2.2.2.1,sa.2.2.2.2.1,sa.2.2.2.2.2.1,sa.2.2.2.2.2.2.1,sa.2.2.2.2.2.2.2.1,sa.2.2.2.2.2.2.2.2.1,()),yb.1.2.1])) fun yd=>
some (.inl ((w64 (sa.1+1)),(w64 (sa.2.1+100)),sa.2.2.1,yd.1,yd.2.1,yd.2.2.1,yd.2.2.2.1,yd.2.2.2.2.1,yd.2.2.2.2.2.1,(max sa.2.2.2.2.2.2.2.2.2.1 yb.1.2.2.1),(max sa.2.2.2.2.2.2.2.2.2.2.1 yb.1.2.2.2.1),sa.2.2.2.2.2.2.2.2.2.2.2.1,sa.2.2.2.2.2.2.2.2.2.2.2.2.1,sa.2.2.2.2.2.2.2.2.2.2.2.2.2.1,yb.1.1.1,yb.1.1.2.1,sa.2.2.2.2.2.2.2.2.2.2.2.2.2.2.2.2.1,sa.2.2.2.2.2.2.2.2.2.2.2.2.2.2.2.2.2.1,sa.2.2.2.2.2.2.2.2.2.2.2.2.2.2.2.2.2.2.1,sa.2.2.2.2.2.2.2.2.2.2.2.2.2.2.2.2.2.2.2.1,sa.2.2.2.2.2.2.2.2.2.2.2.2.2.2.2.2.2.2.2.2.1,sa.2.2.2.2.2.2.2.2.2.2.2.2.2.2.2.2.2.2.2.2.2.1,sa.2.2.2.2.2.2.2.2.2.2.2.2.2.2.2.2.2.2.2.2.2.2.1,sa.2.2.2.2.2.2.2.2.2.2.2.2.2.2.2.2.2.2.2.2.2.2.2.1,sa.2.2.2.2.2.2.2.2.2.2.2.2.2.2.2.2.2.2.2.2.2.2.2.2))))))) big (0,0,0,0,0,0,0,0,0,0,0,0,0,0,x_1.1,x_1.2.1,0,0,0,0,0,0,0,0,0)) fun ta=>
some ((ta.2.2.2.2.1,ta.2.2.2.2.2.1,(ta.2.2.2.2.2.2.1,ta.2.2.2.2.2.2.2.1,ta.2.2.2.2.2.2.2.2.1,ta.2.2.2.2.2.2.2.2.2.1,ta.2.2.2.2.2.2.2.2.2.2.1,ta.2.2.2.2.2.2.2.2.2.2.2.1,()),ta.2.2.2.2.2.2.2.2.2.2.2.2.1,ta.2.2.2.2.2.2.2.2.2.2.2.2.2.1,()),(ta.2.2.1,ta.2.2.2.1,()),ta.1)
def zb9 (p_0:Plan) (way_1:(List zG)) (t_2:Train) (state_3:Int) (stops_4:(List Int)):Option ((List Leg)×Int):=
Zb (zdK p_0 way_1 t_2 state_3 stops_4) fun y1=>
cond (!y1.2) (some ([],2)) (Zb (idx stops_4 0) fun x5=>
Zb (slO stops_4 1 (zn stops_4)) fun x7=>
Zb (iter (σ:=((List Leg)×Int×Int×Int)) (τ:=((List Leg)×Int×Int)⊕((List Leg)×Int×Int×Int)) (fun sa=>
cond (decide (sa.2.1<(zn x7))) (Zb (idx x7 sa.2.1) fun xa=>
Zb y1.1 fun pa=>
Zb (zbt pa (sa.2.2.1,sa.2.2.2,()) xa) fun ya=>
cond (!ya.2.2) (some (.inr (.inr ([],4,sa.2.2.1,sa.2.2.2)))) (cond (decide (sa.2.2.2>10000000000000000)) (some (.inr (.inr ([],4,sa.2.2.1,sa.2.2.2)))) (Zb (zdQ 80 sa.1 ([ya.1])) fun xb=>
some (.inl (xb,(w64 (sa.2.1+1)),ya.2.1.1,ya.2.1.2.1))))) (some (.inr (.inl (sa.1,sa.2.2.1,sa.2.2.2))))) big ([],0,0,(w64 ((w64 (10*t_2.1))*x5)))) fun ta=>
alt (fun bb=>some (bb.1,0)) (fun ba=>some (ba.1,ba.2.1)) ta)
def zaT (l_0:(List Leg)) (field_1:((Leg)->Option (Int))):Option (List Int):=
Zb (iter (σ:=((List Int)×Int)) (τ:=(List Int)) (fun s7=>
cond (decide (s7.2<(zn l_0))) (Zb (idx l_0 s7.2) fun xa=>
Zb (field_1 xa) fun ya=>
Zb (zdQ 8 s7.1 ([ya])) fun xb=>
some (.inl (xb,(w64 (s7.2+1))))) (some (.inr s7.1))) big ([],0)) fun ta=>
some ta
def zeI (x_0:Leg):Option (Int):=
some x_0.1
def zbV (p_0:Plan) (way_1:(List zG)) (t_2:Train) (state_3:Int) (stops_4:(List Int)):Option ((List Int)×Int):=
Zb (zb9 p_0 way_1 t_2 state_3 stops_4) fun y1=>
cond (y1.2 !=0) (some ([],y1.2)) (Zb (zaT y1.1 (fun x=>zeI x)) fun y4=>
some (y4,0))
def zbk (p_0:Plan) (l_1:Line) (c_2:Course):Option ((List Int)×(List Int)×Bool):=
Zb (zcd p_0 c_2.1) fun y1=>
Zb (cond (y1.2 !=0) (some true) (Zb (zl (zn c_2.2.1) 2 60) fun yb=>
cond (!yb) (some true) (cond ((zn c_2.2.2.1)!=(zn c_2.2.1)) (some true) (Zb (idx c_2.2.2.1 0) fun xd=>
cond (xd !=0) (some true) (Zb (idx c_2.2.2.1 (w64 ((zn c_2.2.1)-1))) fun xe=>
some (xe !=0)))))) fun c9=>
cond c9 (some ([],[],false)) (Zb (iter (σ:=Int) (τ:=Unit⊕((List Int)×(List Int)×Bool)) (fun sb=>
cond (decide (sb<(zn c_2.2.1))) (Zb (idx c_2.2.1 sb) fun xa=>
Zb (zl xa 1 y1.1) fun yc=>
cond (!yc) (some (.inr (.inr ([],[],false)))) (cond (decide (sb>0)) (Zb (idx c_2.2.1 (w64 (sb-1))) fun xf=>
cond (decide (xa≤xf)) (some (.inr (.inr ([],[],false)))) (Zb (idx c_2.2.2.1 sb) fun xg=>
Zb (zl xg 0 600) fun yd=>
cond (!yd) (some (.inr (.inr ([],[],false)))) (some (.inl (w64 (sb+1)))))) (Zb (idx c_2.2.2.1 sb) fun xh=>
Zb (zl xh 0 600) fun ye=>
cond (!ye) (some (.inr (.inr ([],[],false)))) (some (.inl (w64 (sb+1))))))) (some (.inr (.inl ())))) big 0) fun tb=>
alt (fun bb=>Zb (zbV p_0 c_2.1 l_1.2.2.1 l_1.2.2.2.1 c_2.2.1) fun ya=>
Zb (cond (ya.2 !=0) (some true) (some ((zn ya.1)!=(w64 ((zn c_2.2.1)-1))))) fun ca=>
cond ca (some ([],[],false)) (Zb (mkO 8 (zn c_2.2.1) (0:Int)) fun xi=>
Zb (mkO 8 (zn c_2.2.1) (0:Int)) fun xj=>
Zb (iter (σ:=(Int×(List Int)×(List Int))) (τ:=((List Int)×(List Int))) (fun sa=>
cond (decide (sa.1<(zn ya.1))) (Zb (idx ya.1 sa.1) fun xk=>
Zb (zcb .i64 (w64 (xk+999)) 1000) fun xb=>
Zb (idx sa.2.2 (w64 (sa.1+1))) fun xp=>
Zb (idx sa.2.1 sa.1) fun xl=>
Zb (idx ((sa.2.2).set (Int.toNat (w64 (sa.1+1))) (max 1 xb)) (w64 (sa.1+1))) fun xm=>
Zb (idx c_2.2.2.1 (w64 (sa.1+1))) fun xn=>
Zb (idx sa.2.1 (w64 (sa.1+1))) fun xq=>
some (.inl ((w64 (sa.1+1)),(sa.2.1).set (Int.toNat (w64 (sa.1+1))) (w64 ((w64 (xl+xm))+xn)),(sa.2.2).set (Int.toNat (w64 (sa.1+1))) (max 1 xb)))) (some (.inr (sa.2.1,sa.2.2)))) big (0,xj,xi)) fun ta=>
Zb (idx ta.1 (w64 ((zn c_2.2.1)-1))) fun xo=>
some (ta.2,ta.1,(decide (xo≤50000))))) (fun ba=>some (ba.1,ba.2.1,ba.2.2)) tb)
def zbL (p_0:Plan) (l_1:Line):Option ((Option zk)×Bool):=
Zb (Zb (zdx p_0) fun y5=>
cond (y5 !=0) (some true) (Zb (zl l_1.2.2.2.2.1 0 3600) fun y7=>
some (!y7))) fun c4=>
cond c4 (some ((none:Option zk),false)) (Zb (zaj l_1) fun yb=>
Zb (iter (σ:=(Int×(List Int)×(List Int)×(List Int)×(List Int))) (τ:=((List Int)×(List Int)×(List Int)×(List Int))⊕((Option zk)×Bool×(List Int)×(List Int)×(List Int)×(List Int))) (fun sa=>
cond (decide (sa.1<2)) (Zb (idx yb sa.1) fun xa=>
Zb (zbk p_0 l_1 xa) fun ya=>
Zb (idx [(),()] sa.1) fun xb=>
Zb (idx [(),()] sa.1) fun xd=>
cond (!ya.2.2) (some (.inr (.inr ((none:Option zk),false,cond (sa.1==0) ya.1 sa.2.1,cond (sa.1==1) ya.1 sa.2.2.1,cond (sa.1==0) ya.2.1 sa.2.2.2.1,cond (sa.1==1) ya.2.1 sa.2.2.2.2)))) (some (.inl ((w64 (sa.1+1)),cond (sa.1==0) ya.1 sa.2.1,cond (sa.1==1) ya.1 sa.2.2.1,cond (sa.1==0) ya.2.1 sa.2.2.2.1,cond (sa.1==1) ya.2.1 sa.2.2.2.2)))) (some (.inr (.inl (sa.2.1,sa.2.2.1,sa.2.2.2.1,sa.2.2.2.2))))) big (0,[],[],[],[])) fun ta=>
alt (fun ba=>some ((some (((l_1.1.1,l_1.1.2.1,l_1.1.2.2.1,()),(l_1.2.1.1,l_1.2.1.2.1,l_1.2.1.2.2.1,()),(l_1.2.2.1.1,l_1.2.2.1.2.1,l_1.2.2.1.2.2.1,l_1.2.2.1.2.2.2.1,l_1.2.2.1.2.2.2.2.1,l_1.2.2.1.2.2.2.2.2.1,l_1.2.2.1.2.2.2.2.2.2.1,l_1.2.2.1.2.2.2.2.2.2.2.1,l_1.2.2.1.2.2.2.2.2.2.2.2.1,l_1.2.2.1.2.2.2.2.2.2.2.2.2.1,()),l_1.2.2.2.1,l_1.2.2.2.2.1,()),[ba.1,ba.2.1],[ba.2.2.1,ba.2.2.2],())),true)) (fun bb=>some (bb.1,bb.2.1)) ta)
def zaz (home_0:Bool):Option (Int):=
cond home_0 (some 1) (some 0)
def zav (p_0:Plan) (l_1:Line) (home_2:Bool):Option ((List Int)×Int):=
Zb (zbL p_0 l_1) fun y1=>
cond (!y1.2) (some ([],2)) (Zb (zaz home_2) fun y6=>
Zb y1.1 fun p7=>
Zb (idx p7.2.2.1 y6) fun x8=>
some (x8,0))
def zy (r_0:zk) (side_1:Int):Option (Int):=
Zb (idx r_0.2.2.1 side_1) fun x4=>
Zb (idx r_0.2.2.1 side_1) fun x5=>
Zb (idx x4 (w64 ((zn x5)-1))) fun x6=>
some x6
def zaX (r_0:zk):Option (Int):=
Zb (zy r_0 0) fun y3=>
Zb (zy r_0 1) fun y4=>
some (w64 ((w64 (y3+y4))+(w64 (2*r_0.1.2.2.2.2.1))))
def zcO (p_0:Plan) (l_1:Line):Option (Int×Int):=
Zb (zbL p_0 l_1) fun y1=>
cond (!y1.2) (some (0,2)) (Zb y1.1 fun p3=>
Zb (zaX p3) fun y4=>
some (y4,0))
def zaK (r_0:zk) (headway_1:Int):Option (Int):=
Zb (zaX r_0) fun y1=>
Zb (zcb .i64 (w64 ((w64 (y1+headway_1))-1)) headway_1) fun x2=>
some x2
def zbM (p_0:Plan) (l_1:Line) (headway_2:Int):Option (Int×Int):=
Zb (zbL p_0 l_1) fun y1=>
Zb (cond (!y1.2) (some true) (Zb (zl headway_2 30 7200) fun y6=>
some (!y6))) fun c4=>
cond c4 (some (0,2)) (Zb y1.1 fun p8=>
Zb (zaK p8 headway_2) fun y9=>
some (y9,0))
def zdL (length_0:Int):Option (Plan×Line):=
Zb (zcb .i64 length_0 2) fun x5=>
Zb (zcb .i64 length_0 2) fun x7=>
some ((([(((0,0,()),1,[((0,false,()):zo)],0,()):zcp),((((length_0,0,()):Spot),1,[((0,true,()):zo)],0,()):zcp)],[((0,1,[],8000,0,()):Rail)],()):Plan),(((([((0,false,()):zG)],[1000,x5,length_0],[0,20,0],()):Course),(([((0,true,()):zG)],[1000,x7,length_0],[0,10,0],()):Course),((1000,1000,8000,2000,2000,1000000,0,0,0,[1000],()):Train),0,30,()):Line))
def zu :Option (Bool):=
Zb (zdL 21000) fun y1=>
Zb (zbV y1.1 y1.2.1.1 y1.2.2.2.1 0 y1.2.1.2.1) fun y4=>
Zb (zav y1.1 y1.2 false) fun y6=>
Zb (zav y1.1 y1.2 true) fun y7=>
Zb (zcO y1.1 y1.2) fun y8=>
Zb (cond (y4.2 !=0) (some true) (cond (y6.2 !=0) (some true) (cond (y7.2 !=0) (some true) (cond (y8.2 !=0) (some true) (cond ((zn y4.1)!=2) (some true) (cond ((zn y6.1)!=3) (some true) (some ((zn y7.1)!=3)))))))) fun ca=>
cond ca (some false) (Zb (idx y4.1 0) fun xb=>
Zb (zcb .i64 (w64 (xb+999)) 1000) fun xa=>
Zb (idx y4.1 1) fun xd=>
Zb (zcb .i64 (w64 (xd+999)) 1000) fun xe=>
Zb (zbM y1.1 y1.2 y8.1) fun ya=>
Zb (zbM y1.1 y1.2 (w64 (y8.1-1))) fun yb=>
Zb (Zb (idx y6.1 0) fun xf=>
cond (xf==0) (Zb (idx y6.1 1) fun xg=>
cond (xg==(w64 (xa+20))) (Zb (idx y6.1 2) fun xh=>
cond (xh==(w64 ((w64 (xa+xe))+20))) (Zb (idx y6.1 2) fun xi=>
Zb (idx y7.1 2) fun xj=>
cond (y8.1==(w64 ((w64 (xi+xj))+60))) (cond (ya.2==0) (cond (yb.2==0) (cond (ya.1==1) (some (yb.1==2)) (some false)) (some false)) (some false)) (some false)) (some false)) (some false)) (some false)) fun cc=>
some cc)
def zaY (n_0:Int) (low_1:Int) (high_2:Int):Option (Bool):=
Zb (cond (decide (n_0≥low_1)) (some (decide (n_0≤high_2))) (some false)) fun c2=>
some c2
def zbN (l_0:Line) (home_1:Bool):Option (Course):=
cond home_1 (some l_0.2.1) (some l_0.1)
def zeV (p_0:Plan) (m_1:zG):Option (Bool):=
Zb (zad m_1.1 0 (w64 ((zn p_0.2.1)-1))) fun y1=>
some y1
def zfB (m_0:zG):Option (zo):=
some ((m_0.1,(!m_0.2.1),()):zo)
def zdy (n_0:zcp) (e_1:zo):Option (Int):=
Zb (iter (σ:=Int) (τ:=Unit⊕(Int)) (fun s5=>
cond (decide (s5<(zn n_0.2.2.1))) (Zb (idx n_0.2.2.1 s5) fun x9=>
cond (x9==e_1) (some (.inr (.inr s5))) (some (.inl (w64 (s5+1))))) (some (.inr (.inl ())))) big 0) fun ta=>
alt (fun bb=>some (-1)) (fun ba=>some ba) ta
def zhr (m_0:zG):Option (zo):=
some ((m_0.1,m_0.2.1,()):zo)
def zeW (n_0:zcp) (a_1:Int) (b_2:Int):Option (Bool):=
cond (n_0.2.1==2) (some (a_1 !=b_2)) (cond (n_0.2.1==3) (Zb (cond (a_1 !=b_2) (Zb (zos (w64 (a_1+b_2)) 2) fun x7=>
some (x7==0)) (some false)) fun c5=>
some c5) (cond (n_0.2.1==4) (Zb (cond (a_1==0) (cond (decide (b_2>0)) (some true) (cond (decide (a_1>0)) (some (b_2==0)) (some false))) (cond (decide (a_1>0)) (some (b_2==0)) (some false))) fun ca=>
some ca) (cond (n_0.2.1==5) (Zb (cond (a_1==0) (cond (b_2==n_0.2.2.2.1) (some true) (cond (decide (a_1>0)) (some (b_2==0)) (some false))) (cond (decide (a_1>0)) (some (b_2==0)) (some false))) fun cc=>
some cc) (cond (n_0.2.1==6) (Zb (cond (a_1==0) (cond (b_2==n_0.2.2.2.1) (some true) (cond (a_1==n_0.2.2.2.1) (some (b_2==0)) (some false))) (cond (a_1==n_0.2.2.2.1) (some (b_2==0)) (some false))) fun cd=>
some cd) (some false)))))
def zcP (p_0:Plan) (m_1:zG) (n_2:zG):Option (Bool):=
Zb (zfB m_1) fun y3=>
Zb (zfk p_0 y3) fun y4=>
Zb (idx p_0.1 y4) fun x5=>
Zb (zfB m_1) fun yc=>
Zb (zdy x5 yc) fun ya=>
Zb (zhr n_2) fun yd=>
Zb (zdy x5 yd) fun yb=>
Zb (cond (decide (ya≥0)) (cond (decide (yb≥0)) (Zb (zeW x5 ya yb) fun ye=>
some ye) (some false)) (some false)) fun ca=>
some ca
def zeB (p_0:Plan) (l_1:(List zG)):Option (Bool):=
Zb (iter (σ:=Int) (τ:=Unit⊕(Bool)) (fun sa=>
cond (decide (sa<(zn l_1))) (Zb (idx l_1 sa) fun xa=>
Zb (zeV p_0 xa) fun ya=>
cond (!ya) (some (.inr (.inr false))) (cond (decide (sa>0)) (Zb (idx l_1 (w64 (sa-1))) fun xb=>
Zb (idx l_1 sa) fun xd=>
Zb (zcP p_0 xb xd) fun yb=>
cond (!yb) (some (.inr (.inr false))) (some (.inl (w64 (sa+1))))) (some (.inl (w64 (sa+1)))))) (some (.inr (.inl ())))) big 0) fun ta=>
alt (fun bb=>Zb (zad (zn l_1) 1 2000) fun yc=>
some yc) (fun ba=>some ba) ta
def zcf (p_0:Plan) (l_1:(List zG)):Option (Int):=
Zb (iter (σ:=(Int×Int)) (τ:=Int) (fun s6=>
cond (decide (s6.2<(zn l_1))) (Zb (idx l_1 s6.2) fun xa=>
Zb (zaH p_0 xa.1) fun ya=>
some (.inl ((w64 (s6.1+ya)),(w64 (s6.2+1))))) (some (.inr s6.1))) big (0,0)) fun ta=>
some ta
def zbo (x_0:Int) (low_1:Int) (high_2:Int):Option (Bool):=
Zb (cond (decide (x_0≥low_1)) (some (decide (x_0≤high_2))) (some false)) fun c2=>
some c2
def zeh (t_0:Train):Option (Bool):=
Zb (Zb (zbo t_0.1 1000 80000) fun ya=>
cond (!ya) (some true) (Zb (zbo t_0.2.1 1 60000) fun yb=>
cond (!yb) (some true) (Zb (zbo t_0.2.2.1 1 25000) fun yc=>
cond (!yc) (some true) (Zb (zbo t_0.2.2.2.1 1 200000) fun yd=>
cond (!yd) (some true) (Zb (zbo t_0.2.2.2.2.1 1 200000) fun ye=>
cond (!ye) (some true) (Zb (zbo t_0.2.2.2.2.2.1 1 2000000) fun yf=>
cond (!yf) (some true) (Zb (zbo t_0.2.2.2.2.2.2.1 0 100000) fun yg=>
cond (!yg) (some true) (Zb (zbo t_0.2.2.2.2.2.2.2.1 0 10000) fun yh=>
cond (!yh) (some true) (Zb (zbo t_0.2.2.2.2.2.2.2.2.1 0 100) fun yi=>
cond (!yi) (some true) (Zb (zbo (zn t_0.2.2.2.2.2.2.2.2.2.1) 1 8) fun yj=>
some (!yj))))))))))) fun ca=>
cond ca (some false) (Zb (iter (σ:=Int) (τ:=Unit⊕(Bool)) (fun sa=>
cond (decide (sa<(zn t_0.2.2.2.2.2.2.2.2.2.1))) (Zb (idx t_0.2.2.2.2.2.2.2.2.2.1 sa) fun xa=>
Zb (zbo xa 1 1000) fun yk=>
cond (!yk) (some (.inr (.inr false))) (some (.inl (w64 (sa+1))))) (some (.inr (.inl ())))) big 0) fun ta=>
alt (fun bb=>some true) (fun ba=>some ba) ta)
def zei (p_0:Plan) (way_1:(List zG)) (t_2:Train) (state_3:Int) (stops_4:(List Int)):Option (Bool):=
Zb (Zb (zc1 p_0) fun ya=>
cond (!ya) (some true) (Zb (zeB p_0 way_1) fun yb=>
cond (!yb) (some true) (Zb (zeh t_2) fun yc=>
cond (!yc) (some true) (Zb (zbo state_3 0 (w64 ((zn t_2.2.2.2.2.2.2.2.2.2.1)-1))) fun yd=>
cond (!yd) (some true) (Zb (zbo (zn stops_4) 2 100) fun ye=>
cond (!ye) (some true) (Zb (idx stops_4 0) fun xa=>
some (decide (xa<t_2.2.1)))))))) fun ca=>
cond ca (some false) (Zb (iter (σ:=Int) (τ:=Unit⊕(Bool)) (fun sa=>
cond (decide (sa<(zn stops_4))) (Zb (idx stops_4 sa) fun xb=>
Zb (idx stops_4 (w64 (sa-1))) fun xd=>
cond (decide (xb≤xd)) (some (.inr (.inr false))) (some (.inl (w64 (sa+1))))) (some (.inr (.inl ())))) big 1) fun ta=>
alt (fun bb=>Zb (idx stops_4 (w64 ((zn stops_4)-1))) fun xe=>
Zb (zcf p_0 way_1) fun yf=>
some (decide (xe≤yf))) (fun ba=>some ba) ta)
def zP (t_0:Train) (x_1:zb):Option (Int):=
Zb (zcb .i64 x_1.2.1 (w64 (10*t_0.1))) fun x1=>
some x1
def za6 (r_0:z9) (place_1:Int):Option (Int):=
Zb (iter (σ:=(Int×Int)) (τ:=Unit⊕(Int)) (fun sa=>
cond (decide (sa.2<(zn r_0.2.1))) (Zb (idx r_0.2.1 sa.2) fun xa=>
Zb (zaH r_0.1 xa.1) fun ya=>
cond (decide (place_1<(w64 (sa.1+ya)))) (Zb (idx r_0.2.1 sa.2) fun xb=>
cond xb.2.1 (Zb (idx r_0.2.1 sa.2) fun xd=>
Zb (idx r_0.1.2.1 xd.1) fun xe=>
some (.inr (.inr (w64 (0-xe.2.2.2.2.1))))) (Zb (idx r_0.2.1 sa.2) fun xf=>
Zb (idx r_0.1.2.1 xf.1) fun xg=>
some (.inr (.inr xg.2.2.2.2.1)))) (cond (sa.2==(w64 ((zn r_0.2.1)-1))) (Zb (idx r_0.2.1 sa.2) fun xh=>
cond xh.2.1 (Zb (idx r_0.2.1 sa.2) fun xi=>
Zb (idx r_0.1.2.1 xi.1) fun xj=>
some (.inr (.inr (w64 (0-xj.2.2.2.2.1))))) (Zb (idx r_0.2.1 sa.2) fun xk=>
Zb (idx r_0.1.2.1 xk.1) fun xl=>
some (.inr (.inr xl.2.2.2.2.1)))) (some (.inl ((w64 (sa.1+ya)),(w64 (sa.2+1))))))) (some (.inr (.inl ())))) big (0,0)) fun ta=>
alt (fun bb=>some 0) (fun ba=>some ba) ta
def zdM (t_0:Train) (speed_1:Int) (demand_2:Int) (slope_3:Int) (state_4:Int):Option (Int×Int×Int×Int):=
Zb (idx t_0.2.2.2.2.2.2.2.2.2.1 state_4) fun x3=>
Zb (zcb .i64 (w64 ((w64 (x3*t_0.1))*981)) 100000) fun x4=>
cond (decide (demand_2>0)) (Zb (zcb .i64 (w64 (t_0.2.2.2.1*demand_2)) 4) fun x6=>
cond (decide (speed_1>0)) (Zb (zcb .i64 (w64 (1000*t_0.2.2.2.2.2.1)) speed_1) fun x8=>
cond (decide (demand_2<0)) (Zb (zcb .i64 (w64 (t_0.2.2.2.2.1*(w64 (0-demand_2)))) 4) fun xa=>
Zb (zcb .i64 (w64 (t_0.2.2.2.2.2.2.2.1*speed_1)) 1000) fun xb=>
Zb (zcb .i64 (w64 ((w64 (t_0.1*slope_3))*981)) 100000) fun xd=>
some ((min (min x6 x4) x8),(min xa x4),(w64 (t_0.2.2.2.2.2.2.1+xb)),xd)) (Zb (zcb .i64 (w64 (t_0.2.2.2.2.2.2.2.1*speed_1)) 1000) fun xe=>
Zb (zcb .i64 (w64 ((w64 (t_0.1*slope_3))*981)) 100000) fun xf=>
some ((min (min x6 x4) x8),0,(w64 (t_0.2.2.2.2.2.2.1+xe)),xf))) (cond (decide (demand_2<0)) (Zb (zcb .i64 (w64 (t_0.2.2.2.2.1*(w64 (0-demand_2)))) 4) fun xg=>
Zb (zcb .i64 (w64 (t_0.2.2.2.2.2.2.2.1*speed_1)) 1000) fun xh=>
Zb (zcb .i64 (w64 ((w64 (t_0.1*slope_3))*981)) 100000) fun xi=>
some ((min x6 x4),(min xg x4),(w64 (t_0.2.2.2.2.2.2.1+xh)),xi)) (Zb (zcb .i64 (w64 (t_0.2.2.2.2.2.2.2.1*speed_1)) 1000) fun xj=>
Zb (zcb .i64 (w64 ((w64 (t_0.1*slope_3))*981)) 100000) fun xk=>
some ((min x6 x4),0,(w64 (t_0.2.2.2.2.2.2.1+xj)),xk)))) (cond (decide (demand_2<0)) (Zb (zcb .i64 (w64 (t_0.2.2.2.2.1*(w64 (0-demand_2)))) 4) fun xl=>
Zb (zcb .i64 (w64 (t_0.2.2.2.2.2.2.2.1*speed_1)) 1000) fun xm=>
Zb (zcb .i64 (w64 ((w64 (t_0.1*slope_3))*981)) 100000) fun xn=>
some (0,(min xl x4),(w64 (t_0.2.2.2.2.2.2.1+xm)),xn)) (Zb (zcb .i64 (w64 (t_0.2.2.2.2.2.2.2.1*speed_1)) 1000) fun xo=>
Zb (zcb .i64 (w64 ((w64 (t_0.1*slope_3))*981)) 100000) fun xp=>
some (0,0,(w64 (t_0.2.2.2.2.2.2.1+xo)),xp)))
def zaJ (t_0:Train) (x_1:zb) (demand_2:Int) (slope_3:Int) (state_4:Int):Option (zb×z6×Bool):=
Zb (zcb .i64 x_1.1 t_0.1) fun x5=>
Zb (zdM t_0 x5 demand_2 slope_3 state_4) fun y6=>
Zb (cond (decide ((w64 (x_1.1+(w64 (100*(w64 ((w64 ((w64 (y6.1-y6.2.1))-y6.2.2.1))-y6.2.2.2))))))<0)) (some true) (cond (x_1.1==0) (some (decide ((w64 ((w64 ((w64 (y6.1-y6.2.1))-y6.2.2.1))-y6.2.2.2))≤0))) (some false))) fun ca=>
cond ca (some (((0,(w64 (x_1.2.1+0)),()):zb),(0,0,0,0,0,(w64 (x_1.1*x_1.1)),()),(decide (0≤(w64 (25000*t_0.1)))))) (some ((((w64 (x_1.1+(w64 (100*(w64 ((w64 ((w64 (y6.1-y6.2.1))-y6.2.2.1))-y6.2.2.2)))))),(w64 (x_1.2.1+(w64 (x_1.1+(w64 (100*(w64 ((w64 ((w64 (y6.1-y6.2.1))-y6.2.2.1))-y6.2.2.2)))))))),()):zb),(((w64 ((w64 (200*y6.1))*(w64 (x_1.1+(w64 (100*(w64 ((w64 ((w64 (y6.1-y6.2.1))-y6.2.2.1))-y6.2.2.2)))))))),(w64 ((w64 (200*y6.2.1))*(w64 (x_1.1+(w64 (100*(w64 ((w64 ((w64 (y6.1-y6.2.1))-y6.2.2.1))-y6.2.2.2)))))))),(w64 ((w64 (200*y6.2.2.1))*(w64 (x_1.1+(w64 (100*(w64 ((w64 ((w64 (y6.1-y6.2.1))-y6.2.2.1))-y6.2.2.2)))))))),(w64 ((w64 (200*y6.2.2.2))*(w64 (x_1.1+(w64 (100*(w64 ((w64 ((w64 (y6.1-y6.2.1))-y6.2.2.1))-y6.2.2.2)))))))),(w64 ((w64 (10000*(w64 ((w64 ((w64 (y6.1-y6.2.1))-y6.2.2.1))-y6.2.2.2))))*(w64 ((w64 ((w64 (y6.1-y6.2.1))-y6.2.2.1))-y6.2.2.2)))),0,()):z6),(decide ((w64 (x_1.1+(w64 (100*(w64 ((w64 ((w64 (y6.1-y6.2.1))-y6.2.2.1))-y6.2.2.2))))))≤(w64 (25000*t_0.1))))))
def zdN (p_0:Plan) (l_1:(List zG)) (front_2:Int) (length_3:Int):Option (List Cover):=
Zb (iter (σ:=((List Cover)×Int×Int)) (τ:=(List Cover)) (fun sa=>
cond (decide (sa.2.2<(zn l_1))) (Zb (idx l_1 sa.2.2) fun xa=>
Zb (zaH p_0 xa.1) fun ya=>
cond (decide ((w64 ((max (w64 (front_2-length_3)) sa.2.1)-sa.2.1))≥(w64 ((min front_2 (w64 (sa.2.1+ya)))-sa.2.1)))) (some (.inl (sa.1,(w64 (sa.2.1+ya)),(w64 (sa.2.2+1))))) (Zb (idx l_1 sa.2.2) fun xb=>
cond xb.2.1 (Zb (idx l_1 sa.2.2) fun xd=>
Zb (zdQ 24 sa.1 ([((xd.1,(w64 (ya-(w64 ((min front_2 (w64 (sa.2.1+ya)))-sa.2.1)))),(w64 (ya-(w64 ((max (w64 (front_2-length_3)) sa.2.1)-sa.2.1)))),()):Cover)])) fun xe=>
some (.inl (xe,(w64 (sa.2.1+ya)),(w64 (sa.2.2+1))))) (Zb (idx l_1 sa.2.2) fun xf=>
Zb (zdQ 24 sa.1 ([((xf.1,(w64 ((max (w64 (front_2-length_3)) sa.2.1)-sa.2.1)),(w64 ((min front_2 (w64 (sa.2.1+ya)))-sa.2.1)),()):Cover)])) fun xg=>
some (.inl (xg,(w64 (sa.2.1+ya)),(w64 (sa.2.2+1))))))) (some (.inr sa.1))) big ([],0,0)) fun ta=>
some ta
def zdz (p_0:Plan) (way_1:(List zG)) (t_2:Train) (place_3:Int):Option (Int):=
Zb (zdN p_0 way_1 place_3 t_2.2.1) fun y1=>
Zb (iter (σ:=(Int×Int)) (τ:=Int) (fun s8=>
cond (decide (s8.2<(zn y1))) (Zb (idx y1 s8.2) fun xa=>
Zb (idx p_0.2.1 xa.1) fun xb=>
some (.inl ((min s8.1 xb.2.2.2.1),(w64 (s8.2+1))))) (some (.inr s8.1))) big (t_2.2.2.1,0)) fun ta=>
some ta
def zd1 (r_0:z9) (x_1:zb):Option (Bool):=
Zb (iter (σ:=(Int×Int×Int)) (τ:=(Bool×Int×Int)) (fun sa=>
Zb (zP r_0.2.2.1 (sa.2.1,sa.2.2,())) fun yb=>
cond (decide (yb>r_0.2.2.2.2.1)) (some (.inr (false,sa.2.1,sa.2.2))) (Zb (zcb .i64 sa.2.1 r_0.2.2.1.1) fun xa=>
Zb (zP r_0.2.2.1 (sa.2.1,sa.2.2,())) fun yc=>
Zb (zdz r_0.1 r_0.2.1 r_0.2.2.1 yc) fun yd=>
cond (decide (xa>yd)) (some (.inr (false,sa.2.1,sa.2.2))) (cond (sa.2.1==0) (some (.inr (true,sa.2.1,sa.2.2))) (cond (sa.1==36000) (some (.inr (false,sa.2.1,sa.2.2))) (Zb (zP r_0.2.2.1 (sa.2.1,sa.2.2,())) fun ye=>
Zb (za6 r_0 ye) fun yf=>
Zb (zaJ r_0.2.2.1 (sa.2.1,sa.2.2,()) (-4) yf r_0.2.2.2.1) fun ya=>
cond (!ya.2.2) (some (.inr (false,ya.1.1,ya.1.2.1))) (some (.inl ((w64 (sa.1+1)),ya.1.1,ya.1.2.1)))))))) big (0,x_1.1,x_1.2.1)) fun ta=>
some ta.1
def zcx (r_0:z9) (x_1:zb):Option (Int×Bool):=
Zb (iter (σ:=Int) (τ:=Unit⊕(Int×Bool)) (fun sa=>
cond (decide (sa≥(-4))) (Zb (zP r_0.2.2.1 x_1) fun yb=>
Zb (za6 r_0 yb) fun yc=>
Zb (zaJ r_0.2.2.1 x_1 sa yc r_0.2.2.2.1) fun ya=>
cond ya.2.2 (Zb (zd1 r_0 ya.1) fun yd=>
cond yd (some (.inr (.inr (sa,true)))) (some (.inl (w64 (sa-1))))) (some (.inl (w64 (sa-1))))) (some (.inr (.inl ())))) big 4) fun ta=>
alt (fun bb=>some (0,false)) (fun ba=>some (ba.1,ba.2)) ta
def zbO (t_0:Train) (x_1:zb) (demand_2:Int) (slope_3:Int) (state_4:Int):Option (Int×Int):=
Zb (zcb .i64 x_1.1 t_0.1) fun x3=>
Zb (zdM t_0 x3 demand_2 slope_3 state_4) fun y4=>
Zb (zaJ t_0 x_1 demand_2 slope_3 state_4) fun y5=>
Zb (zcb .i64 (w64 ((w64 ((w64 (y4.1*y5.1.1))+(w64 (1000*t_0.1))))-1)) (w64 (1000*t_0.1))) fun xa=>
Zb (zcb .i64 (w64 ((w64 (y4.2.1*y5.1.1))*t_0.2.2.2.2.2.2.2.2.1)) (w64 (100000*t_0.1))) fun xb=>
some (xa,xb)
def zeC (a_0:z6) (b_1:z6):Option (z6):=
some (((w64 (a_0.1+b_1.1)),(w64 (a_0.2.1+b_1.2.1)),(w64 (a_0.2.2.1+b_1.2.2.1)),(w64 (a_0.2.2.2.1+b_1.2.2.2.1)),(w64 (a_0.2.2.2.2.1+b_1.2.2.2.2.1)),(w64 (a_0.2.2.2.2.2.1+b_1.2.2.2.2.2.1)),()):z6)
def zej (p_0:Plan) (way_1:(List zG)) (t_2:Train) (state_3:Int) (stops_4:(List Int)):Option ((List Leg)×Bool):=
Zb (idx stops_4 0) fun x3=>
Zb (iter (σ:=((List Leg)×Int×Int×Int)) (τ:=((List Leg)×Int×Int)⊕((List Leg)×Bool)) (fun sb=>
cond (decide (sb.2.1<(zn stops_4))) (Zb (idx stops_4 sb.2.1) fun xb=>
Zb (iter (σ:=(Int×Int×Int×Int×Int×Int×Int×Int×Int×Int×Int×Int)) (τ:=(Train×zb×Int×(List Int)×Int×Int×Int×Int×Bool×Int×Int×Int×Int×Int×Int×Int×Int×Int×Int×Int)⊕((List Leg)×Bool×Int×Int×Int×Int×Int×Int×Int×Int×Int×Int×Int)) (fun sa=>
cond (decide (sa.2.2.2.2.2.2.2.2.2.2.1>0)) (cond (sa.1==36000) (some (.inr (.inr ([],false,sa.2.1,sa.2.2.1,sa.2.2.2.1,sa.2.2.2.2.1,sa.2.2.2.2.2.1,sa.2.2.2.2.2.2.1,sa.2.2.2.2.2.2.2.1,sa.2.2.2.2.2.2.2.2.1,sa.2.2.2.2.2.2.2.2.2.1,sa.2.2.2.2.2.2.2.2.2.2.1,sa.2.2.2.2.2.2.2.2.2.2.2)))) (cond (decide (sa.2.2.2.2.2.2.2.2.2.2.2>10000000000000000)) (some (.inr (.inr ([],false,sa.2.1,sa.2.2.1,sa.2.2.2.1,sa.2.2.2.2.1,sa.2.2.2.2.2.1,sa.2.2.2.2.2.2.1,sa.2.2.2.2.2.2.2.1,sa.2.2.2.2.2.2.2.2.1,sa.2.2.2.2.2.2.2.2.2.1,sa.2.2.2.2.2.2.2.2.2.2.1,sa.2.2.2.2.2.2.2.2.2.2.2)))) (Zb (zcx ((p_0,way_1,t_2,state_3,xb,()):z9) (sa.2.2.2.2.2.2.2.2.2.2.1,sa.2.2.2.2.2.2.2.2.2.2.2,())) fun yc=>
cond (!yc.2) (some (.inr (.inr ([],false,sa.2.1,sa.2.2.1,sa.2.2.2.1,sa.2.2.2.2.1,sa.2.2.2.2.2.1,sa.2.2.2.2.2.2.1,sa.2.2.2.2.2.2.2.1,sa.2.2.2.2.2.2.2.2.1,sa.2.2.2.2.2.2.2.2.2.1,sa.2.2.2.2.2.2.2.2.2.2.1,sa.2.2.2.2.2.2.2.2.2.2.2)))) (Zb (zP t_2 (sa.2.2.2.2.2.2.2.2.2.2.1,sa.2.2.2.2.2.2.2.2.2.2.2,())) fun yl=>
Zb (za6 ((p_0,way_1,t_2,state_3,xb,()):z9) yl) fun yh=>
Zb (zbO t_2 (sa.2.2.2.2.2.2.2.2.2.2.1,sa.2.2.2.2.2.2.2.2.2.2.2,()) yc.1 yh state_3) fun yi=>
Zb (zaJ t_2 (sa.2.2.2.2.2.2.2.2.2.2.1,sa.2.2.2.2.2.2.2.2.2.2.2,()) yc.1 yh state_3) fun yd=>
Zb (zeC (sa.2.2.1,sa.2.2.2.1,sa.2.2.2.2.1,sa.2.2.2.2.2.1,sa.2.2.2.2.2.2.1,sa.2.2.2.2.2.2.2.1,()) yd.2.1) fun ya=>
some (.inl ((w64 (sa.1+1)),(w64 (sa.2.1+100)),ya.1,ya.2.1,ya.2.2.1,ya.2.2.2.1,ya.2.2.2.2.1,ya.2.2.2.2.2.1,(max sa.2.2.2.2.2.2.2.2.1 yi.1),(max sa.2.2.2.2.2.2.2.2.2.1 yi.2),yd.1.1,yd.1.2.1)))))) (Zb (zP t_2 (sa.2.2.2.2.2.2.2.2.2.2.1,sa.2.2.2.2.2.2.2.2.2.2.2,())) fun ye=>
Zb (idx stops_4 sb.2.1) fun xa=>
cond (decide (ye<(w64 (xa-1000)))) (cond (sa.1==36000) (some (.inr (.inr ([],false,sa.2.1,sa.2.2.1,sa.2.2.2.1,sa.2.2.2.2.1,sa.2.2.2.2.2.1,sa.2.2.2.2.2.2.1,sa.2.2.2.2.2.2.2.1,sa.2.2.2.2.2.2.2.2.1,sa.2.2.2.2.2.2.2.2.2.1,sa.2.2.2.2.2.2.2.2.2.2.1,sa.2.2.2.2.2.2.2.2.2.2.2)))) (cond (decide (sa.2.2.2.2.2.2.2.2.2.2.2>10000000000000000)) (some (.inr (.inr ([],false,sa.2.1,sa.2.2.1,sa.2.2.2.1,sa.2.2.2.2.1,sa.2.2.2.2.2.1,sa.2.2.2.2.2.2.1,sa.2.2.2.2.2.2.2.1,sa.2.2.2.2.2.2.2.2.1,sa.2.2.2.2.2.2.2.2.2.1,sa.2.2.2.2.2.2.2.2.2.2.1,sa.2.2.2.2.2.2.2.2.2.2.2)))) (Zb (zcx ((p_0,way_1,t_2,state_3,xb,()):z9) (sa.2.2.2.2.2.2.2.2.2.2.1,sa.2.2.2.2.2.2.2.2.2.2.2,())) fun yf=>
cond (!yf.2) (some (.inr (.inr ([],false,sa.2.1,sa.2.2.1,sa.2.2.2.1,sa.2.2.2.2.1,sa.2.2.2.2.2.1,sa.2.2.2.2.2.2.1,sa.2.2.2.2.2.2.2.1,sa.2.2.2.2.2.2.2.2.1,sa.2.2.2.2.2.2.2.2.2.1,sa.2.2.2.2.2.2.2.2.2.2.1,sa.2.2.2.2.2.2.2.2.2.2.2)))) (Zb (zP t_2 (sa.2.2.2.2.2.2.2.2.2.2.1,sa.2.2.2.2.2.2.2.2.2.2.2,())) fun ym=>
Zb (za6 ((p_0,way_1,t_2,state_3,xb,()):z9) ym) fun yj=>
Zb (zbO t_2 (sa.2.2.2.2.2.2.2.2.2.2.1,sa.2.2.2.2.2.2.2.2.2.2.2,()) yf.1 yj state_3) fun yk=>
Zb (zaJ t_2 (sa.2.2.2.2.2.2.2.2.2.2.1,sa.2.2.2.2.2.2.2.2.2.2.2,()) yf.1 yj state_3) fun yg=>
Zb (zeC (sa.2.2.1,sa.2.2.2.1,sa.2.2.2.2.1,sa.2.2.2.2.2.1,sa.2.2.2.2.2.2.1,sa.2.2.2.2.2.2.2.1,()) yg.2.1) fun yb=>
some (.inl ((w64 (sa.1+1)),(w64 (sa.2.1+100)),yb.1,yb.2.1,yb.2.2.1,yb.2.2.2.1,yb.2.2.2.2.1,yb.2.2.2.2.2.1,(max sa.2.2.2.2.2.2.2.2.1 yk.1),(max sa.2.2.2.2.2.2.2.2.2.1 yk.2),yg.1.1,yg.1.2.1)))))) (some (.inr (.inl (t_2,(sa.2.2.2.2.2.2.2.2.2.2.1,sa.2.2.2.2.2.2.2.2.2.2.2,()),ye,stops_4,sb.2.1,xa,xa,(w64 (xa-1000)),(decide (ye<(w64 (xa-1000)))),sa.2.1,sa.2.2.1,sa.2.2.2.1,sa.2.2.2.2.1,sa.2.2.2.2.2.1,sa.2.2.2.2.2.2.1,sa.2.2.2.2.2.2.2.1,sa.2.2.2.2.2.2.2.2.1,sa.2.2.2.2.2.2.2.2.2.1,sa.2.2.2.2.2.2.2.2.2.2.1,sa.2.2.2.2.2.2.2.2.2.2.2)))))) big (0,0,0,0,0,0,0,0,0,0,sb.2.2.1,sb.2.2.2)) fun ta=>
alt (fun ba=>Zb (zP t_2 (ba.2.2.2.2.2.2.2.2.2.2.2.2.2.2.2.2.2.2.1,ba.2.2.2.2.2.2.2.2.2.2.2.2.2.2.2.2.2.2.2,())) fun yn=>
Zb (zdQ 80 sb.1 ([(ba.2.2.2.2.2.2.2.2.2.1,yn,(ba.2.2.2.2.2.2.2.2.2.2.1,ba.2.2.2.2.2.2.2.2.2.2.2.1,ba.2.2.2.2.2.2.2.2.2.2.2.2.1,ba.2.2.2.2.2.2.2.2.2.2.2.2.2.1,ba.2.2.2.2.2.2.2.2.2.2.2.2.2.2.1,ba.2.2.2.2.2.2.2.2.2.2.2.2.2.2.2.1,()),ba.2.2.2.2.2.2.2.2.2.2.2.2.2.2.2.2.1,ba.2.2.2.2.2.2.2.2.2.2.2.2.2.2.2.2.2.1,())])) fun xd=>
some (.inl (xd,(w64 (sb.2.1+1)),ba.2.2.2.2.2.2.2.2.2.2.2.2.2.2.2.2.2.2.1,ba.2.2.2.2.2.2.2.2.2.2.2.2.2.2.2.2.2.2.2))) (fun bb=>some (.inr (.inr (bb.1,bb.2.1)))) ta) (some (.inr (.inl (sb.1,sb.2.2.1,sb.2.2.2))))) big ([],1,0,(w64 ((w64 (10*t_2.1))*x3)))) fun tb=>
alt (fun bc=>some (bc.1,(decide (bc.2.2≤10000000000000000)))) (fun bd=>some (bd.1,bd.2)) tb
def zfC (p_0:Plan) (way_1:(List zG)) (t_2:Train) (state_3:Int) (stops_4:(List Int)):Option ((List Int)×Bool):=
Zb (zei p_0 way_1 t_2 state_3 stops_4) fun y1=>
cond (!y1) (some ([],false)) (Zb (zej p_0 way_1 t_2 state_3 stops_4) fun y3=>
Zb (iter (σ:=((List Int)×Int)) (τ:=(List Int)) (fun s9=>
cond (decide (s9.2<(zn y3.1))) (Zb (idx y3.1 s9.2) fun xa=>
Zb (zdQ 8 s9.1 ([xa.1])) fun xb=>
some (.inl (xb,(w64 (s9.2+1))))) (some (.inr s9.1))) big ([],0)) fun ta=>
some (ta,y3.2))
def zcW (p_0:Plan) (l_1:Line) (home_2:Bool):Option ((List Int)×Bool):=
Zb (zbN l_1 home_2) fun y1=>
Zb (Zb (zeB p_0 y1.1) fun yb=>
cond (!yb) (some true) (Zb (zaY (zn y1.2.1) 2 60) fun yc=>
cond (!yc) (some true) (cond ((zn y1.2.2.1)!=(zn y1.2.1)) (some true) (Zb (idx y1.2.2.1 0) fun xa=>
cond (xa !=0) (some true) (Zb (idx y1.2.2.1 (w64 ((zn y1.2.2.1)-1))) fun xb=>
some (xb !=0)))))) fun ca=>
cond ca (some ([],false)) (Zb (iter (σ:=Int) (τ:=Unit⊕((List Int)×Bool)) (fun sa=>
cond (decide (sa<(zn y1.2.1))) (Zb (idx y1.2.1 sa) fun xd=>
Zb (zcf p_0 y1.1) fun yd=>
Zb (zaY xd 1 yd) fun ye=>
cond (!ye) (some (.inr (.inr ([],false)))) (Zb (idx y1.2.2.1 sa) fun xe=>
Zb (zaY xe 0 600) fun yf=>
cond (!yf) (some (.inr (.inr ([],false)))) (cond (decide (sa>0)) (Zb (idx y1.2.1 sa) fun xf=>
Zb (idx y1.2.1 (w64 (sa-1))) fun xg=>
cond (decide (xf≤xg)) (some (.inr (.inr ([],false)))) (some (.inl (w64 (sa+1))))) (some (.inl (w64 (sa+1))))))) (some (.inr (.inl ())))) big 0) fun ta=>
alt (fun bb=>Zb (zfC p_0 y1.1 l_1.2.2.1 l_1.2.2.2.1 y1.2.1) fun ya=>
cond (!ya.2) (some ([],false)) (Zb (iter (σ:=((List Int)×Int)) (τ:=(List Int)) (fun sb=>
cond (decide (sb.2<(zn ya.1))) (Zb (idx ya.1 sb.2) fun xh=>
Zb (zcb .i64 (w64 (xh+999)) 1000) fun xi=>
Zb (zdQ 8 sb.1 ([(max 1 xi)])) fun xj=>
some (.inl (xj,(w64 (sb.2+1))))) (some (.inr sb.1))) big ([],0)) fun tb=>
some (tb,true))) (fun ba=>some (ba.1,ba.2)) ta)
def zdm (p_0:Plan) (l_1:Line) (home_2:Bool):Option (List Int):=
Zb (zcW p_0 l_1 home_2) fun y1=>
some y1.1
def zX (p_0:Plan) (l_1:Line) (home_2:Bool):Option (List Int):=
Zb (zbN l_1 home_2) fun y1=>
Zb (zdm p_0 l_1 home_2) fun y3=>
Zb (iter (σ:=((List Int)×Int)) (τ:=(List Int)) (fun sa=>
cond (decide (sa.2<(zn y3))) (Zb (idx sa.1 sa.2) fun xa=>
Zb (idx y3 sa.2) fun xb=>
Zb (idx y1.2.2.1 (w64 (sa.2+1))) fun xd=>
Zb (zdQ 8 sa.1 ([(w64 ((w64 (xa+xb))+xd))])) fun xe=>
some (.inl (xe,(w64 (sa.2+1))))) (some (.inr sa.1))) big ([0],0)) fun ta=>
some ta
def zd2 (p_0:Plan) (l_1:Line):Option (Bool):=
Zb (zaY l_1.2.2.2.2.1 0 3600) fun y1=>
cond (!y1) (some false) (Zb (iter (σ:=Int) (τ:=Unit⊕(Bool)) (fun sa=>
cond (decide (sa<2)) (Zb (zcW p_0 l_1 (sa==1)) fun yb=>
cond (!yb.2) (some (.inr (.inr false))) (Zb (zX p_0 l_1 (sa==1)) fun ya=>
Zb (idx ya (w64 ((zn ya)-1))) fun xa=>
cond (decide (xa>50000)) (some (.inr (.inr false))) (some (.inl (w64 (sa+1)))))) (some (.inr (.inl ())))) big 0) fun ta=>
alt (fun bb=>some true) (fun ba=>some ba) ta)
def zas (p_0:Plan) (l_1:Line) (home_2:Bool):Option (Int):=
Zb (zX p_0 l_1 home_2) fun y1=>
Zb (idx y1 (w64 ((zn y1)-1))) fun x3=>
some x3
def zcy (p_0:Plan) (l_1:Line):Option (Int):=
Zb (zas p_0 l_1 false) fun y3=>
Zb (zas p_0 l_1 true) fun y4=>
some (w64 ((w64 (y3+y4))+(w64 (2*l_1.2.2.2.2.1))))
def zdn (p_0:Plan) (s_1:Service):Option (Bool):=
Zb (iter (σ:=Int) (τ:=Unit⊕(Bool)) (fun s5=>
cond (decide (s5<(zn s_1.1))) (Zb (idx s_1.1 s5) fun x8=>
Zb (zc2 x8) fun y9=>
cond (!y9) (some (.inr (.inr false))) (some (.inl (w64 (s5+1))))) (some (.inr (.inl ())))) big 0) fun ta=>
alt (fun bb=>Zb (Zb (zed p_0) fun ya=>
cond ya (cond (decide ((zn s_1.1)≤3)) (cond (decide ((zn s_1.2.1)≤4)) (some (decide ((zn s_1.2.2.1)≤4))) (some false)) (some false)) (some false)) fun ca=>
some ca) (fun ba=>some ba) ta
def zbW (p_0:Plan) (s_1:Service):Option (Bool):=
Zb (Zb (zc1 p_0) fun y7=>
cond (!y7) (some true) (Zb (zaY (zn s_1.1) 1 20) fun y9=>
cond (!y9) (some true) (cond ((zn s_1.2.1)!=(zn s_1.1)) (some true) (some ((zn s_1.2.2.1)!=(zn s_1.1)))))) fun c6=>
cond c6 (some false) (Zb (iter (σ:=Int) (τ:=Unit⊕(Bool)) (fun sa=>
cond (decide (sa<(zn s_1.1))) (Zb (idx s_1.1 sa) fun xa=>
Zb (zd2 p_0 xa) fun ya=>
cond (!ya) (some (.inr (.inr false))) (Zb (idx s_1.2.1 sa) fun xb=>
Zb (zaY xb 30 7200) fun yb=>
cond (!yb) (some (.inr (.inr false))) (Zb (idx s_1.2.2.1 sa) fun xd=>
Zb (idx s_1.2.1 sa) fun xe=>
Zb (zaY xd 0 (w64 (xe-1))) fun yc=>
cond (!yc) (some (.inr (.inr false))) (some (.inl (w64 (sa+1))))))) (some (.inr (.inl ())))) big 0) fun ta=>
alt (fun bb=>some true) (fun ba=>some ba) ta)
def zdo (p_0:Plan) (l_1:(List Line)):Option ((List zk)×Bool):=
Zb (zl (zn l_1) 1 20) fun y1=>
cond (!y1) (some ([],false)) (Zb (iter (σ:=((List zk)×Int)) (τ:=(List zk)⊕((List zk)×Bool)) (fun sa=>
cond (decide (sa.2<(zn l_1))) (Zb (idx l_1 sa.2) fun xa=>
Zb (zbL p_0 xa) fun ya=>
cond (!ya.2) (some (.inr (.inr ([],false)))) (Zb ya.1 fun pa=>
Zb (zdQ 8 sa.1 ([pa])) fun xb=>
some (.inl (xb,(w64 (sa.2+1)))))) (some (.inr (.inl sa.1)))) big ([],0)) fun ta=>
alt (fun bb=>some (bb,true)) (fun ba=>some (ba.1,ba.2)) ta)
def za8 (p_0:Plan) (s_1:Service):Option ((List zk)×Bool):=
Zb (cond ((zn s_1.2.1)!=(zn s_1.1)) (some true) (some ((zn s_1.2.2.1)!=(zn s_1.1)))) fun c2=>
cond c2 (some ([],false)) (Zb (iter (σ:=Int) (τ:=Unit⊕((List zk)×Bool)) (fun sa=>
cond (decide (sa<(zn s_1.2.1))) (Zb (idx s_1.2.1 sa) fun xa=>
Zb (zl xa 30 7200) fun yb=>
cond (!yb) (some (.inr (.inr ([],false)))) (Zb (idx s_1.2.2.1 sa) fun xb=>
Zb (zl xb 0 (w64 (xa-1))) fun yc=>
cond (!yc) (some (.inr (.inr ([],false)))) (some (.inl (w64 (sa+1)))))) (some (.inr (.inl ())))) big 0) fun ta=>
alt (fun bb=>Zb (zdo p_0 s_1.1) fun ya=>
some (ya.1,ya.2)) (fun ba=>some (ba.1,ba.2)) ta)
def zdR (h_0:Int) (p_1:(List Int)):Option (Bool):=
Zb (idx p_1 0) fun x1=>
some (h_0 !=x1)
def zc7 (l_0:(List Int)):Option (Bool):=
Zb (zaG l_0 (fun x=>zdR x l_0)) fun y1=>
some (!y1)
def zbp (all_0:(List zk)) (l_1:(List Connection)):Option (Bool):=
Zb (iter (σ:=Int) (τ:=Unit⊕(Bool)) (fun sa=>
cond (decide (sa<(zn l_1))) (Zb (idx l_1 sa) fun xa=>
Zb (zl xa.1 0 (w64 ((zn all_0)-1))) fun ya=>
cond (!ya) (some (.inr (.inr false))) (Zb (zl xa.2.2.2.1 0 (w64 ((zn all_0)-1))) fun yb=>
cond (!yb) (some (.inr (.inr false))) (Zb (zl xa.2.2.2.2.2.2.1 0 xa.2.2.2.2.2.2.2.1) fun yc=>
cond (!yc) (some (.inr (.inr false))) (cond (decide (xa.2.2.2.2.2.2.2.1>7200)) (some (.inr (.inr false))) (Zb (idx all_0 xa.1) fun xb=>
Zb (zaz xa.2.1) fun yd=>
Zb (idx xb.2.2.1 yd) fun xd=>
Zb (idx all_0 xa.2.2.2.1) fun xe=>
Zb (zaz xa.2.2.2.2.1) fun ye=>
Zb (idx xe.2.2.1 ye) fun xf=>
Zb (zl xa.2.2.1 1 (w64 ((zn xd)-1))) fun yf=>
cond (!yf) (some (.inr (.inr false))) (Zb (zl xa.2.2.2.2.2.1 0 (w64 ((zn xf)-2))) fun yg=>
cond (!yg) (some (.inr (.inr false))) (some (.inl (w64 (sa+1)))))))))) (some (.inr (.inl ())))) big 0) fun ta=>
alt (fun bb=>some (decide ((zn l_1)≤60))) (fun ba=>some ba) ta
def z4 (r_0:zk) (side_1:Int) (headway_2:Int) (offset_3:Int):Option (Int):=
cond (side_1==0) (some offset_3) (Zb (zy r_0 0) fun y6=>
Zb (zaK r_0 headway_2) fun y7=>
Zb (zaX r_0) fun y8=>
Zb (zcb .i64 (w64 ((w64 (y7*headway_2))-y8)) 2) fun x9=>
some (w64 ((w64 ((w64 (offset_3+y6))+r_0.1.2.2.2.2.1))+x9)))
def zat (n_0:Int) (h_1:Int):Option (Int):=
Zb (zos n_0 h_1) fun x1=>
Zb (zos (w64 (x1+h_1)) h_1) fun x2=>
some x2
def zc8 (all_0:(List zk)) (headway_1:Int) (offsets_2:(List Int)) (c_3:Connection):Option (Int):=
Zb (idx all_0 c_3.1) fun x3=>
Zb (idx all_0 c_3.2.2.2.1) fun x4=>
Zb (zaz c_3.2.1) fun y7=>
Zb (zaz c_3.2.2.2.2.1) fun y8=>
Zb (idx offsets_2 c_3.1) fun xa=>
Zb (z4 x3 y7 headway_1 xa) fun ya=>
Zb (idx x3.2.2.1 y7) fun xb=>
Zb (idx xb c_3.2.2.1) fun xd=>
Zb (zaj x3.1) fun yb=>
Zb (idx yb y7) fun xe=>
Zb (idx xe.2.2.1 c_3.2.2.1) fun xf=>
Zb (idx offsets_2 c_3.2.2.2.1) fun xg=>
Zb (z4 x4 y8 headway_1 xg) fun yc=>
Zb (idx x4.2.2.1 y8) fun xh=>
Zb (idx xh c_3.2.2.2.2.2.1) fun xi=>
Zb (zat (w64 ((w64 ((w64 (yc+xi))-(w64 ((w64 (ya+xd))-xf))))-c_3.2.2.2.2.2.2.1)) headway_1) fun yd=>
some (w64 (c_3.2.2.2.2.2.2.1+yd))
def zcH (p_0:Plan) (s_1:Service) (c_2:Connection):Option (Int×Int):=
Zb (za8 p_0 s_1) fun y1=>
Zb (cond (!y1.2) (some true) (Zb (zc7 s_1.2.1) fun y8=>
cond (!y8) (some true) (Zb (zbp y1.1 ([c_2])) fun ya=>
some (!ya)))) fun c6=>
cond c6 (some (0,2)) (Zb (idx s_1.2.1 0) fun xa=>
Zb (zc8 y1.1 xa s_1.2.2.1 c_2) fun yb=>
some (yb,0))
def zV (s_0:(List Connection)) (f_1:((Connection)->Option (Bool))):Option (Int):=
Zb (iter (σ:=Int) (τ:=Unit⊕(Int)) (fun s5=>
cond (decide (s5<(zn s_0))) (Zb (idx s_0 s5) fun x8=>
Zb (f_1 x8) fun y9=>
cond y9 (some (.inr (.inr s5))) (some (.inl (w64 (s5+1))))) (some (.inr (.inl ())))) big 0) fun ta=>
alt (fun bb=>some (-1)) (fun ba=>some ba) ta
def zaa (s_0:(List Connection)) (f_1:((Connection)->Option (Bool))):Option (Bool):=
Zb (zV s_0 f_1) fun y1=>
some (decide (y1≥0))
def zcQ (c_0:Connection) (p_1:(List zk)) (p_2:Service):Option (Bool):=
Zb (idx p_2.2.1 0) fun x3=>
Zb (zc8 p_1 x3 p_2.2.2.1 c_0) fun y4=>
some (decide (y4>c_0.2.2.2.2.2.2.2.1))
def zcl (p_0:Plan) (s_1:Service) (l_2:(List Connection)):Option (Bool×Int):=
Zb (za8 p_0 s_1) fun y1=>
Zb (cond (!y1.2) (some true) (Zb (zc7 s_1.2.1) fun y9=>
cond (!y9) (some true) (Zb (zbp y1.1 l_2) fun ya=>
some (!ya)))) fun c7=>
cond c7 (some (false,2)) (Zb (zaa l_2 (fun x=>zcQ x y1.1 s_1)) fun yb=>
some ((!yb),0))
def zeX (s_0:Service):Option (Bool):=
Zb (iter (σ:=Int) (τ:=Unit⊕(Bool)) (fun s7=>
cond (decide (s7<(zn s_0.2.1))) (Zb (idx s_0.2.1 s7) fun xa=>
Zb (idx s_0.2.1 0) fun xb=>
cond (xa !=xb) (some (.inr (.inr false))) (some (.inl (w64 (s7+1))))) (some (.inr (.inl ())))) big 1) fun ta=>
alt (fun bb=>some true) (fun ba=>some ba) ta
def zbl (lines_0:(List Line)) (c_1:Connection):Option (Bool):=
Zb (Zb (zaY c_1.1 0 (w64 ((zn lines_0)-1))) fun y8=>
cond (!y8) (some true) (Zb (zaY c_1.2.2.2.1 0 (w64 ((zn lines_0)-1))) fun ya=>
cond (!ya) (some true) (Zb (zaY c_1.2.2.2.2.2.2.1 0 c_1.2.2.2.2.2.2.2.1) fun yb=>
cond (!yb) (some true) (some (decide (c_1.2.2.2.2.2.2.2.1>7200)))))) fun c7=>
cond c7 (some false) (Zb (Zb (idx lines_0 c_1.1) fun xa=>
Zb (zbN xa c_1.2.1) fun yc=>
Zb (zaY c_1.2.2.1 1 (w64 ((zn yc.2.1)-1))) fun yd=>
cond yd (Zb (idx lines_0 c_1.2.2.2.1) fun xb=>
Zb (zbN xb c_1.2.2.2.2.1) fun ye=>
Zb (zaY c_1.2.2.2.2.2.1 0 (w64 ((zn ye.2.1)-2))) fun yf=>
some yf) (some false)) fun ca=>
some ca)
def zaL (a_0:Int) (n_1:Int):Option (Int):=
Zb (zos a_0 n_1) fun x1=>
Zb (zos (w64 (x1+n_1)) n_1) fun x2=>
some x2
def zcz (p_0:Plan) (l_1:Line) (h_2:Int):Option (Int):=
Zb (zcy p_0 l_1) fun y1=>
Zb (zcb .i64 (w64 ((w64 (y1+h_2))-1)) h_2) fun x2=>
some x2
def z8 (p_0:Plan) (s_1:Service) (line_2:Int) (home_3:Bool):Option (Int):=
Zb (idx s_1.1 line_2) fun x1=>
cond (!home_3) (Zb (idx s_1.2.2.1 line_2) fun x4=>
some x4) (Zb (idx s_1.2.1 line_2) fun x9=>
Zb (zcz p_0 x1 x9) fun ya=>
Zb (idx s_1.2.1 line_2) fun xa=>
Zb (zcy p_0 x1) fun yb=>
Zb (idx s_1.2.2.1 line_2) fun xb=>
Zb (zas p_0 x1 false) fun yc=>
Zb (zcb .i64 (w64 ((w64 (ya*xa))-yb)) 2) fun xd=>
some (w64 ((w64 ((w64 (xb+yc))+x1.2.2.2.2.1))+xd)))
def zek (p_0:Plan) (s_1:Service) (c_2:Connection):Option (Int):=
Zb (idx s_1.1 c_2.1) fun x5=>
Zb (idx s_1.1 c_2.2.2.2.1) fun x6=>
Zb (z8 p_0 s_1 c_2.1 c_2.2.1) fun ya=>
Zb (zX p_0 x5 c_2.2.1) fun yb=>
Zb (idx yb c_2.2.2.1) fun xa=>
Zb (zbN x5 c_2.2.1) fun yc=>
Zb (idx yc.2.2.1 c_2.2.2.1) fun xb=>
Zb (z8 p_0 s_1 c_2.2.2.2.1 c_2.2.2.2.2.1) fun yd=>
Zb (zX p_0 x6 c_2.2.2.2.2.1) fun ye=>
Zb (idx ye c_2.2.2.2.2.2.1) fun xd=>
some (w64 ((w64 (yd+xd))-(w64 ((w64 (ya+xa))-xb))))
def zd3 (p_0:Plan) (s_1:Service) (c_2:Connection):Option (Int):=
Zb (zek p_0 s_1 c_2) fun y4=>
Zb (idx s_1.2.1 0) fun x5=>
Zb (zaL (w64 (y4-c_2.2.2.2.2.2.2.1)) x5) fun y6=>
some (w64 (c_2.2.2.2.2.2.2.1+y6))
def zbH (lines_0:(List Line)) (l_1:(List Connection)):Option (Bool):=
Zb (iter (σ:=Int) (τ:=Unit⊕(Bool)) (fun s5=>
cond (decide (s5<(zn l_1))) (Zb (idx l_1 s5) fun x8=>
Zb (zbl lines_0 x8) fun y9=>
cond (!y9) (some (.inr (.inr false))) (some (.inl (w64 (s5+1))))) (some (.inr (.inl ())))) big 0) fun ta=>
alt (fun bb=>some (decide ((zn l_1)≤60))) (fun ba=>some ba) ta
def zdA (p_0:Plan) (s_1:Service) (l_2:(List Connection)):Option (Bool):=
Zb (iter (σ:=Int) (τ:=Unit⊕(Bool)) (fun s9=>
cond (decide (s9<(zn l_2))) (Zb (idx l_2 s9) fun xa=>
Zb (zd3 p_0 s_1 xa) fun ya=>
Zb (idx l_2 s9) fun xb=>
cond (decide (ya>xb.2.2.2.2.2.2.2.1)) (some (.inr (.inr false))) (some (.inl (w64 (s9+1))))) (some (.inr (.inl ())))) big 0) fun ta=>
alt (fun bb=>some true) (fun ba=>some ba) ta
def zb2 (p_0:Plan) (s_1:Service) (l_2:(List Connection)):Option (Bool):=
Zb (Zb (zdn p_0 s_1) fun y8=>
cond (!y8) (some true) (cond (decide ((zn l_2)>5)) (cond (decide ((zn l_2)≤60)) (some true) (cond (decide ((zn l_2)>80)) (some true) (some ((zn l_2)==0)))) (cond (decide ((zn l_2)>80)) (some true) (some ((zn l_2)==0))))) fun c7=>
cond c7 (Zb zu fun yc=>
some yc) (Zb (idx l_2 0) fun xa=>
Zb (zcH p_0 s_1 xa) fun yb=>
Zb (zcl p_0 s_1 l_2) fun ya=>
Zb (Zb (zbW p_0 s_1) fun yd=>
cond yd (Zb (zeX s_1) fun ye=>
some ye) (some false)) fun ca=>
Zb (cond (!ca) (some true) (Zb (idx l_2 0) fun xb=>
Zb (zbl s_1.1 xb) fun yf=>
some (!yf))) fun cc=>
cond cc (Zb (cond (yb.2 !=2) (some true) (some (yb.1 !=0))) fun cd=>
cond cd (some false) (Zb (cond (!ca) (some true) (Zb (zbH s_1.1 l_2) fun yg=>
some (!yg))) fun ce=>
cond ce (Zb (cond (ya.2==2) (cond (!ya.1) (Zb zu fun yh=>
some yh) (some false)) (some false)) fun cf=>
some cf) (Zb (cond (ya.2==0) (Zb (zdA p_0 s_1 l_2) fun yi=>
cond (ya.1==yi) (Zb zu fun yj=>
some yj) (some false)) (some false)) fun cg=>
some cg))) (Zb (cond (yb.2 !=0) (some true) (Zb (idx l_2 0) fun xd=>
Zb (zd3 p_0 s_1 xd) fun yk=>
some (yb.1 !=yk))) fun ch=>
cond ch (some false) (Zb (cond (!ca) (some true) (Zb (zbH s_1.1 l_2) fun yl=>
some (!yl))) fun ci=>
cond ci (Zb (cond (ya.2==2) (cond (!ya.1) (Zb zu fun ym=>
some ym) (some false)) (some false)) fun cj=>
some cj) (Zb (cond (ya.2==0) (Zb (zdA p_0 s_1 l_2) fun yn=>
cond (ya.1==yn) (Zb zu fun yo=>
some yo) (some false)) (some false)) fun ck=>
some ck))))
def za9 (p_0:Plan) (s_1:Service) (line_2:Int) (factor_3:Int) (gap_4:Int):Option ((Option zk)×Bool):=
Zb (za8 p_0 s_1) fun y1=>
Zb (cond (!y1.2) (some true) (Zb (zl line_2 0 (w64 ((zn s_1.1)-1))) fun ya=>
cond (!ya) (some true) (Zb (zl factor_3 100 400) fun yb=>
cond (!yb) (some true) (Zb (zl gap_4 1 3600) fun yc=>
some (!yc))))) fun c8=>
cond c8 (some ((none:Option zk),false)) (Zb (idx y1.1 line_2) fun xa=>
some ((some xa),true))
def zaF (r_0:zk) (side_1:Int) (factor_2:Int):Option (List Int):=
Zb (idx r_0.2.1 side_1) fun x1=>
Zb (mkO 8 (zn x1) (0:Int)) fun x2=>
Zb (iter (σ:=(Int×(List Int))) (τ:=(List Int)) (fun sa=>
cond (decide (sa.1<(zn sa.2))) (Zb (idx sa.2 (w64 (sa.1-1))) fun xa=>
Zb (idx r_0.2.1 side_1) fun xb=>
Zb (idx xb sa.1) fun xd=>
Zb (zcb .i64 (w64 ((w64 (xd*factor_2))+99)) 100) fun xe=>
Zb (zaj r_0.1) fun ya=>
Zb (idx ya side_1) fun xf=>
Zb (idx xf.2.2.1 sa.1) fun xg=>
Zb (idx sa.2 sa.1) fun xh=>
some (.inl ((w64 (sa.1+1)),(sa.2).set (Int.toNat sa.1) (w64 ((w64 (xa+xe))+xg))))) (some (.inr sa.2))) big (1,x2)) fun ta=>
some ta
def zar (r_0:zk) (side_1:Int) (headway_2:Int) (offset_3:Int) (depart_4:Int) (factor_5:Int) (gap_6:Int):Option (Bool):=
Zb (zaF r_0 side_1 factor_5) fun y1=>
Zb (z4 r_0 side_1 headway_2 offset_3) fun y3=>
Zb (iter (σ:=(Int×Int)) (τ:=Unit⊕(Bool)) (fun sa=>
cond (decide (sa.2<(zn y1))) (Zb (idx y1 sa.2) fun xb=>
Zb (idx r_0.2.2.1 side_1) fun xe=>
Zb (idx xe sa.2) fun xd=>
Zb (zat (w64 ((w64 ((w64 (depart_4+xb))-y3))-xd)) headway_2) fun ya=>
cond (decide (ya<gap_6)) (some (.inr (.inr false))) (cond (decide ((w64 (headway_2-ya))<gap_6)) (some (.inr (.inr false))) (Zb (zcb .i64 (w64 ((w64 ((w64 ((w64 (depart_4+xb))-y3))-xd))-ya)) headway_2) fun xa=>
cond (decide (sa.2>0)) (cond (xa !=sa.1) (some (.inr (.inr false))) (some (.inl (xa,(w64 (sa.2+1)))))) (some (.inl (xa,(w64 (sa.2+1)))))))) (some (.inr (.inl ())))) big (0,0)) fun ta=>
alt (fun bb=>some true) (fun ba=>some ba) ta
def zaV (p_0:Plan) (s_1:Service) (line_2:Int) (home_3:Bool) (from_4:Int) (factor_5:Int) (gap_6:Int):Option (Int×Int):=
Zb (za9 p_0 s_1 line_2 factor_5 gap_6) fun y1=>
Zb (cond (!y1.2) (some true) (Zb (zl from_4 0 200000) fun y6=>
some (!y6))) fun c4=>
cond c4 (some (0,2)) (Zb (iter (σ:=Int) (τ:=Unit⊕(Int×Int)) (fun sa=>
cond (decide (sa≤(w64 (from_4+7200)))) (Zb (zaz home_3) fun ya=>
Zb (idx s_1.2.1 line_2) fun xa=>
Zb (idx s_1.2.2.1 line_2) fun xb=>
Zb y1.1 fun pa=>
Zb (zar pa ya xa xb sa factor_5 gap_6) fun yb=>
cond yb (some (.inr (.inr (sa,0)))) (some (.inl (w64 (sa+1))))) (some (.inr (.inl ())))) big from_4) fun ta=>
alt (fun bb=>some (0,4)) (fun ba=>some (ba.1,ba.2)) ta)
def zb3 (p_0:Plan) (s_1:Service) (line_2:Int) (home_3:Bool) (from_4:Int) (factor_5:Int) (gap_6:Int):Option (Bool):=
Zb (Zb (zdn p_0 s_1) fun yd=>
cond (!yd) (some true) (Zb (zbW p_0 s_1) fun ye=>
cond (!ye) (some true) (cond (decide (line_2<0)) (some true) (cond (decide (line_2≥(zn s_1.1))) (some true) (cond (decide (factor_5<100)) (some true) (cond (decide (factor_5>400)) (some true) (cond (decide (gap_6<1)) (some true) (cond (decide (gap_6>3600)) (some true) (cond (decide (from_4<5000)) (some true) (cond (decide (from_4>20000)) (some true) (Zb (idx s_1.2.1 line_2) fun xl=>
some (decide (xl<30))))))))))))) fun ca=>
cond ca (Zb zu fun yf=>
some yf) (Zb (zaV p_0 s_1 line_2 home_3 from_4 factor_5 gap_6) fun yb=>
cond (yb.2 !=0) (Zb (cond (yb.2==4) (cond (yb.1==0) (Zb zu fun yg=>
some yg) (some false)) (some false)) fun cc=>
some cc) (Zb (idx s_1.1 line_2) fun xm=>
Zb (zav p_0 xm home_3) fun ya=>
Zb (idx s_1.1 line_2) fun xn=>
Zb (zdm p_0 xn home_3) fun yc=>
Zb (idx s_1.1 line_2) fun xo=>
cond home_3 (Zb (idx s_1.1 line_2) fun xp=>
Zb (idx s_1.2.1 line_2) fun xa=>
Zb (cond (ya.2 !=0) (some true) (cond ((zn ya.1)!=(w64 ((zn yc)+1))) (some true) (Zb (idx ya.1 (w64 ((zn ya.1)-1))) fun xq=>
cond (decide (xq>2000)) (some true) (cond (decide (yb.1<from_4)) (some true) (some (decide (yb.1>(w64 (from_4+7200))))))))) fun cd=>
cond cd (Zb (cond (ya.2==0) (cond ((zn ya.1)==(w64 ((zn yc)+1))) (cond (decide (yb.1≥from_4)) (cond (decide (yb.1≤(w64 (from_4+7200)))) (Zb zu fun yh=>
some yh) (some false)) (some false)) (some false)) (some false)) fun ce=>
some ce) (Zb (iter (σ:=(Int×Int×Int)) (τ:=Unit⊕(Bool)) (fun sa=>
cond (decide (sa.2.2<(zn ya.1))) (cond (decide (sa.2.2>0)) (Zb (idx yc (w64 (sa.2.2-1))) fun xr=>
Zb (zcb .i64 (w64 ((w64 (xr*factor_5))+99)) 100) fun xd=>
Zb (idx xp.2.1.2.2.1 sa.2.2) fun xe=>
Zb (z8 p_0 s_1 line_2 home_3) fun yi=>
Zb (zaL yi xa) fun yj=>
Zb (iter (σ:=(Int×Int)) (τ:=(Int)⊕(Bool)) (fun sc=>
cond (decide (sc.2<60000)) (Zb (idx ya.1 sa.2.2) fun xh=>
cond (decide ((w64 ((w64 ((w64 ((w64 (sa.1+xd))+xe))-sc.2))-xh))<gap_6)) (cond (decide ((w64 (0-(w64 ((w64 ((w64 ((w64 (sa.1+xd))+xe))-sc.2))-xh))))<gap_6)) (some (.inr (.inr false))) (cond (decide ((w64 ((w64 ((w64 ((w64 (sa.1+xd))+xe))-sc.2))-xh))>0)) (some (.inl ((w64 (sc.1+1)),(w64 (sc.2+xa))))) (some (.inl (sc.1,(w64 (sc.2+xa))))))) (cond (decide ((w64 ((w64 ((w64 ((w64 (sa.1+xd))+xe))-sc.2))-xh))>0)) (some (.inl ((w64 (sc.1+1)),(w64 (sc.2+xa))))) (some (.inl (sc.1,(w64 (sc.2+xa))))))) (some (.inr (.inl sc.1)))) big (0,(w64 (yj-xa)))) fun ta=>
alt (fun ba=>cond (decide (sa.2.2>0)) (cond (ba !=sa.2.1) (some (.inr (.inr false))) (some (.inl ((w64 ((w64 (sa.1+xd))+xe)),ba,(w64 (sa.2.2+1)))))) (some (.inl ((w64 ((w64 (sa.1+xd))+xe)),ba,(w64 (sa.2.2+1)))))) (fun be=>some (.inr (.inr be))) ta) (Zb (z8 p_0 s_1 line_2 home_3) fun yk=>
Zb (zaL yk xa) fun yl=>
Zb (iter (σ:=(Int×Int)) (τ:=(Int)⊕(Bool)) (fun sd=>
cond (decide (sd.2<60000)) (Zb (idx ya.1 sa.2.2) fun xi=>
cond (decide ((w64 ((w64 (sa.1-sd.2))-xi))<gap_6)) (cond (decide ((w64 (0-(w64 ((w64 (sa.1-sd.2))-xi))))<gap_6)) (some (.inr (.inr false))) (cond (decide ((w64 ((w64 (sa.1-sd.2))-xi))>0)) (some (.inl ((w64 (sd.1+1)),(w64 (sd.2+xa))))) (some (.inl (sd.1,(w64 (sd.2+xa))))))) (cond (decide ((w64 ((w64 (sa.1-sd.2))-xi))>0)) (some (.inl ((w64 (sd.1+1)),(w64 (sd.2+xa))))) (some (.inl (sd.1,(w64 (sd.2+xa))))))) (some (.inr (.inl sd.1)))) big (0,(w64 (yl-xa)))) fun tb=>
alt (fun bb=>cond (decide (sa.2.2>0)) (cond (bb !=sa.2.1) (some (.inr (.inr false))) (some (.inl (sa.1,bb,(w64 (sa.2.2+1)))))) (some (.inl (sa.1,bb,(w64 (sa.2.2+1)))))) (fun bf=>some (.inr (.inr bf))) tb)) (some (.inr (.inl ())))) big (yb.1,0,0)) fun tc=>
alt (fun bk=>Zb zu fun ym=>
some ym) (fun bg=>some bg) tc)) (Zb (idx s_1.2.1 line_2) fun xb=>
Zb (cond (ya.2 !=0) (some true) (cond ((zn ya.1)!=(w64 ((zn yc)+1))) (some true) (Zb (idx ya.1 (w64 ((zn ya.1)-1))) fun xt=>
cond (decide (xt>2000)) (some true) (cond (decide (yb.1<from_4)) (some true) (some (decide (yb.1>(w64 (from_4+7200))))))))) fun cf=>
cond cf (Zb (cond (ya.2==0) (cond ((zn ya.1)==(w64 ((zn yc)+1))) (cond (decide (yb.1≥from_4)) (cond (decide (yb.1≤(w64 (from_4+7200)))) (Zb zu fun yn=>
some yn) (some false)) (some false)) (some false)) (some false)) fun cg=>
some cg) (Zb (iter (σ:=(Int×Int×Int)) (τ:=Unit⊕(Bool)) (fun sb=>
cond (decide (sb.2.2<(zn ya.1))) (cond (decide (sb.2.2>0)) (Zb (idx yc (w64 (sb.2.2-1))) fun xu=>
Zb (zcb .i64 (w64 ((w64 (xu*factor_5))+99)) 100) fun xf=>
Zb (idx xo.1.2.2.1 sb.2.2) fun xg=>
Zb (z8 p_0 s_1 line_2 home_3) fun yo=>
Zb (zaL yo xb) fun yp=>
Zb (iter (σ:=(Int×Int)) (τ:=(Int)⊕(Bool)) (fun se=>
cond (decide (se.2<60000)) (Zb (idx ya.1 sb.2.2) fun xj=>
cond (decide ((w64 ((w64 ((w64 ((w64 (sb.1+xf))+xg))-se.2))-xj))<gap_6)) (cond (decide ((w64 (0-(w64 ((w64 ((w64 ((w64 (sb.1+xf))+xg))-se.2))-xj))))<gap_6)) (some (.inr (.inr false))) (cond (decide ((w64 ((w64 ((w64 ((w64 (sb.1+xf))+xg))-se.2))-xj))>0)) (some (.inl ((w64 (se.1+1)),(w64 (se.2+xb))))) (some (.inl (se.1,(w64 (se.2+xb))))))) (cond (decide ((w64 ((w64 ((w64 ((w64 (sb.1+xf))+xg))-se.2))-xj))>0)) (some (.inl ((w64 (se.1+1)),(w64 (se.2+xb))))) (some (.inl (se.1,(w64 (se.2+xb))))))) (some (.inr (.inl se.1)))) big (0,(w64 (yp-xb)))) fun td=>
alt (fun bc=>cond (decide (sb.2.2>0)) (cond (bc !=sb.2.1) (some (.inr (.inr false))) (some (.inl ((w64 ((w64 (sb.1+xf))+xg)),bc,(w64 (sb.2.2+1)))))) (some (.inl ((w64 ((w64 (sb.1+xf))+xg)),bc,(w64 (sb.2.2+1)))))) (fun bh=>some (.inr (.inr bh))) td) (Zb (z8 p_0 s_1 line_2 home_3) fun yq=>
Zb (zaL yq xb) fun yr=>
Zb (iter (σ:=(Int×Int)) (τ:=(Int)⊕(Bool)) (fun sf=>
cond (decide (sf.2<60000)) (Zb (idx ya.1 sb.2.2) fun xk=>
cond (decide ((w64 ((w64 (sb.1-sf.2))-xk))<gap_6)) (cond (decide ((w64 (0-(w64 ((w64 (sb.1-sf.2))-xk))))<gap_6)) (some (.inr (.inr false))) (cond (decide ((w64 ((w64 (sb.1-sf.2))-xk))>0)) (some (.inl ((w64 (sf.1+1)),(w64 (sf.2+xb))))) (some (.inl (sf.1,(w64 (sf.2+xb))))))) (cond (decide ((w64 ((w64 (sb.1-sf.2))-xk))>0)) (some (.inl ((w64 (sf.1+1)),(w64 (sf.2+xb))))) (some (.inl (sf.1,(w64 (sf.2+xb))))))) (some (.inr (.inl sf.1)))) big (0,(w64 (yr-xb)))) fun te=>
alt (fun bd=>cond (decide (sb.2.2>0)) (cond (bd !=sb.2.1) (some (.inr (.inr false))) (some (.inl (sb.1,bd,(w64 (sb.2.2+1)))))) (some (.inl (sb.1,bd,(w64 (sb.2.2+1)))))) (fun bi=>some (.inr (.inr bi))) te)) (some (.inr (.inl ())))) big (yb.1,0,0)) fun tf=>
alt (fun bl=>Zb zu fun ys=>
some ys) (fun bj=>some bj) tf))))
def zZ (s_0:(List Works)) (f_1:((Works)->Option (Bool))):Option (Int):=
Zb (iter (σ:=Int) (τ:=Unit⊕(Int)) (fun s5=>
cond (decide (s5<(zn s_0))) (Zb (idx s_0 s5) fun x8=>
Zb (f_1 x8) fun y9=>
cond y9 (some (.inr (.inr s5))) (some (.inl (w64 (s5+1))))) (some (.inr (.inl ())))) big 0) fun ta=>
alt (fun bb=>some (-1)) (fun ba=>some ba) ta
def zT (s_0:(List Works)) (f_1:((Works)->Option (Bool))):Option (Bool):=
Zb (zZ s_0 f_1) fun y1=>
some (decide (y1≥0))
def zbI (x_0:Works) (p_1:Plan):Option (Bool):=
Zb (Zb (zl x_0.1 0 (w64 ((zn p_1.2.1)-1))) fun y6=>
cond (!y6) (some true) (Zb (zl x_0.2.1 0 x_0.2.2.1) fun y8=>
cond (!y8) (some true) (some (decide (x_0.2.2.1>200000))))) fun c5=>
some c5
def zcg (p_0:Plan) (w_1:(List Works)):Option (Bool):=
Zb (cond (decide ((zn w_1)≤100)) (Zb (zT w_1 (fun x=>zbI x p_0)) fun y5=>
some (!y5)) (some false)) fun c3=>
some c3
def zae {σ τ:Type} (step:σ->(Int×Int)->Option (σ⊕τ)) (s_:σ) (p_1:zk) (p_2:Int) (p_3:Int) (p_4:Int) (p_5:Int):Option (σ⊕τ):=
Zb (z4 p_1 p_2 p_3 p_4) fun y1=>
Zb (zat (w64 (y1-p_5)) p_3) fun y3=>
Zb (iter (σ:=(Int×(σ⊕τ))) (τ:=(σ⊕τ)) (fun sa=>
Zb (zcb .i64 (w64 (sa.1-y1)) p_3) fun xa=>
Zb (zaK p_1 p_3) fun yb=>
Zb (zat xa yb) fun yc=>
Zb (goL sa.2) fun sb=>
Zb (step sb (sa.1,yc)) fun ya=>
cond (!(ya).isLeft) (some (.inr ya)) (some (.inl ((w64 (sa.1+p_3)),ya)))) big ((w64 (p_5+y3)),(.inl s_))) fun ta=>
some ta
def zbd (r_0:zk) (side_1:Int) (headway_2:Int) (offset_3:Int) (from_4:Int):Option (zk×Int×Int×Int×Int):=
some (r_0,side_1,headway_2,offset_3,from_4)
def zaA (s_0:(List zG)) (f_1:((zG)->Option (Bool))):Option (Int):=
Zb (iter (σ:=Int) (τ:=Unit⊕(Int)) (fun s5=>
cond (decide (s5<(zn s_0))) (Zb (idx s_0 s5) fun x8=>
Zb (f_1 x8) fun y9=>
cond y9 (some (.inr (.inr s5))) (some (.inl (w64 (s5+1))))) (some (.inr (.inl ())))) big 0) fun ta=>
alt (fun bb=>some (-1)) (fun ba=>some ba) ta
def zaU (s_0:(List zG)) (f_1:((zG)->Option (Bool))):Option (Bool):=
Zb (zaA s_0 f_1) fun y1=>
some (decide (y1≥0))
def zbP (m_0:zG) (p_1:Works):Option (Bool):=
some (m_0.1==p_1.1)
def zaZ (x_0:Works) (p_1:(List zG)) (p_2:Int) (p_3:zk) (p_4:Int):Option (Bool):=
Zb (zaU p_1 (fun x=>zbP x x_0)) fun y1=>
Zb (cond y1 (cond (decide (p_2<x_0.2.2.1)) (Zb (zy p_3 p_4) fun ya=>
some (decide (x_0.2.1<(w64 (p_2+ya))))) (some false)) (some false)) fun c8=>
some c8
def zba (r_0:zk) (side_1:Int) (depart_2:Int) (w_3:(List Works)):Option (Bool):=
Zb (zaj r_0.1) fun y4=>
Zb (idx y4 side_1) fun x5=>
Zb (zT w_3 (fun x=>zaZ x x5.1 depart_2 r_0 side_1)) fun y7=>
some (!y7)
def zca (p_0:Plan) (s_1:Service) (w_2:(List Works)) (line_3:Int) (home_4:Bool) (before_5:Int):Option (Trip×Int):=
Zb (za8 p_0 s_1) fun y2=>
Zb (cond (!y2.2) (some true) (Zb (zcg p_0 w_2) fun yb=>
cond (!yb) (some true) (Zb (zl line_3 0 (w64 ((zn s_1.1)-1))) fun yc=>
cond (!yc) (some true) (Zb (zl before_5 0 200000) fun yd=>
some (!yd))))) fun c9=>
cond c9 (some (((0,false,0,0,()):Trip),2)) (Zb (idx y2.1 line_3) fun xb=>
Zb (zaz home_4) fun ye=>
Zb (idx s_1.2.1 line_3) fun xd=>
Zb (idx s_1.2.2.1 line_3) fun xe=>
Zb (zbd xb ye xd xe 0) fun ya=>
Zb (zae (σ:=(Bool×Int×Bool×Int×Int)) (τ:=(Bool×Int×Bool×Int×Int)) (fun sa xa=>
Zb (zaz home_4) fun yf=>
Zb (zy xb yf) fun yg=>
cond (decide ((w64 (xa.1+yg))>before_5)) (some (.inr (sa.1,sa.2.1,sa.2.2.1,sa.2.2.2.1,sa.2.2.2.2))) (Zb (zaz home_4) fun yh=>
Zb (zba xb yh xa.1 w_2) fun yi=>
cond yi (some (.inl (true,line_3,home_4,xa.2,xa.1))) (some (.inl (sa.1,sa.2.1,sa.2.2.1,sa.2.2.2.1,sa.2.2.2.2))))) (false,0,false,0,0) ya.1 ya.2.1 ya.2.2.1 ya.2.2.2.1 ya.2.2.2.2) fun ta=>
alt (fun ba=>cond (!ba.1) (some (((0,false,0,0,()):Trip),4)) (some ((ba.2.1,ba.2.2.1,ba.2.2.2.1,ba.2.2.2.2,()),0))) (fun bb=>cond (!bb.1) (some (((0,false,0,0,()):Trip),4)) (some ((bb.2.1,bb.2.2.1,bb.2.2.2.1,bb.2.2.2.2,()),0))) ta)
def zc3 (p_0:Plan) (w_1:(List Works)):Option (Bool):=
Zb (iter (σ:=Int) (τ:=Unit⊕(Bool)) (fun sa=>
cond (decide (sa<(zn w_1))) (Zb (idx w_1 sa) fun xa=>
Zb (zaY xa.1 0 (w64 ((zn p_0.2.1)-1))) fun ya=>
cond (!ya) (some (.inr (.inr false))) (Zb (idx w_1 sa) fun xb=>
Zb (idx w_1 sa) fun xd=>
Zb (zaY xb.2.1 0 xd.2.2.1) fun yb=>
cond (!yb) (some (.inr (.inr false))) (Zb (idx w_1 sa) fun xe=>
cond (decide (xe.2.2.1>200000)) (some (.inr (.inr false))) (some (.inl (w64 (sa+1))))))) (some (.inr (.inl ())))) big 0) fun ta=>
alt (fun bb=>some (decide ((zn w_1)≤100))) (fun ba=>some ba) ta
def zhe (a_0:Int) (n_1:Int):Option (Int):=
Zb (zaL (w64 (0-a_0)) n_1) fun y1=>
Zb (zcb .i64 (w64 (a_0+y1)) n_1) fun x2=>
some x2
def zdT (s_0:Service) (w_1:(List Works)) (t_2:Trip) (takes_3:Int):Option (Bool):=
Zb (idx s_0.1 t_2.1) fun x3=>
Zb (zbN x3 t_2.2.1) fun y4=>
Zb (iter (σ:=Int) (τ:=Unit⊕(Bool)) (fun sa=>
cond (decide (sa<(zn w_1))) (Zb (iter (σ:=Int) (τ:=Unit⊕(Bool)) (fun sb=>
cond (decide (sb<(zn y4.1))) (Zb (idx y4.1 sb) fun xa=>
Zb (idx w_1 sa) fun xb=>
cond (xa.1==xb.1) (Zb (idx w_1 sa) fun xd=>
cond (decide (t_2.2.2.2.1<xd.2.2.1)) (Zb (idx w_1 sa) fun xe=>
cond (decide (xe.2.1<(w64 (t_2.2.2.2.1+takes_3)))) (some (.inr (.inr false))) (some (.inl (w64 (sb+1))))) (some (.inl (w64 (sb+1))))) (some (.inl (w64 (sb+1))))) (some (.inr (.inl ())))) big 0) fun ta=>
alt (fun bc=>some (.inl (w64 (sa+1)))) (fun ba=>some (.inr (.inr ba))) ta) (some (.inr (.inl ())))) big 0) fun tb=>
alt (fun bd=>some true) (fun bb=>some bb) tb
def zeY (p_0:Plan) (s_1:Service) (w_2:(List Works)) (line_3:Int) (home_4:Bool) (before_5:Int):Option (Trip×Bool):=
Zb (idx s_1.2.1 line_3) fun x2=>
Zb (z8 p_0 s_1 line_3 home_4) fun y3=>
Zb (idx s_1.1 line_3) fun x6=>
Zb (zas p_0 x6 home_4) fun y7=>
Zb (idx s_1.1 line_3) fun xa=>
Zb (zcz p_0 xa x2) fun yb=>
Zb (zhe (w64 ((w64 ((w64 (before_5-y7))-y3))+1)) x2) fun yc=>
Zb (iter (σ:=(Int×Int×Bool×Int×Int)) (τ:=(Int×Bool×Int×Int)⊕(Bool×Int×Bool×Int×Int)) (fun sa=>
cond (decide ((w64 (y3+(w64 (sa.1*x2))))≥0)) (Zb (zaL sa.1 yb) fun ya=>
Zb (zdT s_1 w_2 ((line_3,home_4,ya,(w64 (y3+(w64 (sa.1*x2)))),()):Trip) y7) fun yd=>
cond yd (some (.inr (.inr (true,line_3,home_4,ya,(w64 (y3+(w64 (sa.1*x2)))))))) (some (.inl ((w64 (sa.1-1)),sa.2.1,sa.2.2.1,sa.2.2.2.1,sa.2.2.2.2)))) (some (.inr (.inl (sa.2.1,sa.2.2.1,sa.2.2.2.1,sa.2.2.2.2))))) big ((w64 (yc-1)),0,false,0,0)) fun ta=>
alt (fun bb=>some (((0,false,0,0,()):Trip),false)) (fun ba=>some ((ba.2.1,ba.2.2.1,ba.2.2.2.1,ba.2.2.2.2,()),ba.1)) ta
def zcm (p_0:Plan) (s_1:Service) (w_2:(List Works)) (more_3:Works) (line_4:Int) (home_5:Bool) (before_6:Int):Option (Bool):=
Zb (Zb (zdn p_0 s_1) fun y4=>
cond (!y4) (some true) (some (decide ((zn w_2)>6)))) fun c3=>
cond c3 (Zb zu fun y7=>
some y7) (Zb (zca p_0 s_1 w_2 line_4 home_5 before_6) fun y8=>
Zb (Zb (zbW p_0 s_1) fun yc=>
cond (!yc) (some true) (Zb (zc3 p_0 w_2) fun yd=>
cond (!yd) (some true) (cond (decide (line_4<0)) (some true) (cond (decide (line_4≥(zn s_1.1))) (some true) (cond (decide (before_6<0)) (some true) (some (decide (before_6>200000)))))))) fun ca=>
cond ca (Zb (cond (y8.2==2) (cond (y8.1==((0,false,0,0,()):Trip)) (Zb zu fun ye=>
some ye) (some false)) (some false)) fun cc=>
some cc) (Zb (zeY p_0 s_1 w_2 line_4 home_5 before_6) fun ya=>
Zb (cond (!ya.2) (cond (y8.2 !=4) (some true) (cond (y8.1 !=((0,false,0,0,()):Trip)) (some true) (cond ya.2 (cond (y8.2 !=0) (some true) (some (y8.1 !=ya.1))) (some false)))) (cond ya.2 (cond (y8.2 !=0) (some true) (some (y8.1 !=ya.1))) (some false))) fun cd=>
cond cd (some false) (Zb (zdQ 24 ([]) w_2) fun xb=>
Zb (zdQ 24 xb ([more_3])) fun xa=>
Zb (zc3 p_0 xa) fun yf=>
cond (!yf) (Zb zu fun yg=>
some yg) (Zb (zca p_0 s_1 xa line_4 home_5 before_6) fun yb=>
Zb (cond (yb.2==0) (cond ya.2 (cond (decide (yb.1.2.2.2.1≤y8.1.2.2.2.1)) (Zb zu fun yh=>
some yh) (cond (yb.2==4) (Zb zu fun yi=>
some yi) (some false))) (cond (yb.2==4) (Zb zu fun yj=>
some yj) (some false))) (cond (yb.2==4) (Zb zu fun yk=>
some yk) (some false))) fun ce=>
some ce))))
def zcI (p_0:Plan) (s_1:Service) (line_2:Int) (home_3:Bool) (depart_4:Int) (factor_5:Int) (gap_6:Int):Option (Bool×Int):=
Zb (za9 p_0 s_1 line_2 factor_5 gap_6) fun y1=>
Zb (cond (!y1.2) (some true) (Zb (zl depart_4 0 207200) fun y6=>
some (!y6))) fun c4=>
cond c4 (some (false,2)) (Zb (zaz home_3) fun ya=>
Zb (idx s_1.2.1 line_2) fun xa=>
Zb (idx s_1.2.2.1 line_2) fun xb=>
Zb y1.1 fun pa=>
Zb (zar pa ya xa xb depart_4 factor_5 gap_6) fun yb=>
some (yb,0))
def zcX (x_0:(List Int)) (o_1:(List Int)) (base_2:Int) (h_3:Int) (depart_4:Int) (gap_5:Int):Option (Bool):=
Zb (iter (σ:=(Int×Int)) (τ:=Unit⊕(Bool)) (fun sa=>
cond (decide (sa.2<(zn x_0))) (Zb (idx x_0 sa.2) fun xb=>
Zb (idx o_1 sa.2) fun xd=>
Zb (zaL (w64 ((w64 ((w64 (depart_4+xb))-base_2))-xd)) h_3) fun ya=>
cond (decide (ya<gap_5)) (some (.inr (.inr false))) (cond (decide ((w64 (h_3-ya))<gap_5)) (some (.inr (.inr false))) (Zb (idx x_0 sa.2) fun xe=>
Zb (idx o_1 sa.2) fun xf=>
Zb (zcb .i64 (w64 ((w64 ((w64 ((w64 (depart_4+xe))-base_2))-xf))-ya)) h_3) fun xa=>
cond (decide (sa.2>0)) (cond (xa !=sa.1) (some (.inr (.inr false))) (some (.inl (xa,(w64 (sa.2+1)))))) (some (.inl (xa,(w64 (sa.2+1)))))))) (some (.inr (.inl ())))) big (0,0)) fun ta=>
alt (fun bb=>some true) (fun ba=>some ba) ta
def zdB (p_0:Plan) (l_1:Line) (home_2:Bool) (factor_3:Int):Option (List Int):=
Zb (zbN l_1 home_2) fun y1=>
Zb (zdm p_0 l_1 home_2) fun y3=>
Zb (iter (σ:=((List Int)×Int)) (τ:=(List Int)) (fun sa=>
cond (decide (sa.2<(zn y3))) (Zb (idx sa.1 sa.2) fun xa=>
Zb (idx y3 sa.2) fun xb=>
Zb (zcb .i64 (w64 ((w64 (xb*factor_3))+99)) 100) fun xd=>
Zb (idx y1.2.2.1 (w64 (sa.2+1))) fun xe=>
Zb (zdQ 8 sa.1 ([(w64 ((w64 (xa+xd))+xe))])) fun xf=>
some (.inl (xf,(w64 (sa.2+1))))) (some (.inr sa.1))) big ([0],0)) fun ta=>
some ta
def zeZ (p_0:Plan) (s_1:Service) (line_2:Int) (home_3:Bool) (depart_4:Int) (factor_5:Int) (gap_6:Int):Option (Bool):=
Zb (idx s_1.1 line_2) fun x1=>
Zb (zdB p_0 x1 home_3 factor_5) fun ya=>
Zb (zX p_0 x1 home_3) fun yb=>
Zb (z8 p_0 s_1 line_2 home_3) fun yc=>
Zb (idx s_1.2.1 line_2) fun xa=>
Zb (zcX ya yb yc xa depart_4 gap_6) fun yd=>
some yd
def ze0 (p_0:Plan) (s_1:Service) (line_2:Int) (home_3:Bool) (from_4:Int) (factor_5:Int) (gap_6:Int):Option (Int×Bool):=
Zb (idx s_1.1 line_2) fun x1=>
Zb (zdB p_0 x1 home_3 factor_5) fun y8=>
Zb (zX p_0 x1 home_3) fun ya=>
Zb (z8 p_0 s_1 line_2 home_3) fun yb=>
Zb (iter (σ:=Int) (τ:=Unit⊕(Int×Bool)) (fun sa=>
cond (decide (sa≤(w64 (from_4+7200)))) (Zb (idx s_1.2.1 line_2) fun xa=>
Zb (zcX y8 ya yb xa sa gap_6) fun yc=>
cond yc (some (.inr (.inr (sa,true)))) (some (.inl (w64 (sa+1))))) (some (.inr (.inl ())))) big from_4) fun ta=>
alt (fun bb=>some (0,false)) (fun ba=>some (ba.1,ba.2)) ta
def zb4 (p_0:Plan) (s_1:Service) (line_2:Int) (home_3:Bool) (from_4:Int) (factor_5:Int) (gap_6:Int):Option (Bool):=
Zb (zdn p_0 s_1) fun y1=>
cond (!y1) (Zb zu fun y3=>
some y3) (Zb (zaV p_0 s_1 line_2 home_3 from_4 factor_5 gap_6) fun y4=>
Zb (zcI p_0 s_1 line_2 home_3 from_4 factor_5 gap_6) fun y5=>
Zb (Zb (zbW p_0 s_1) fun yb=>
cond (!yb) (some true) (cond (decide (line_2<0)) (some true) (cond (decide (line_2≥(zn s_1.1))) (some true) (cond (decide (factor_5<100)) (some true) (cond (decide (factor_5>400)) (some true) (cond (decide (gap_6<1)) (some true) (cond (decide (gap_6>3600)) (some true) (cond (decide (from_4<0)) (some true) (some (decide (from_4>207200))))))))))) fun ca=>
cond ca (Zb (cond (y4.2==2) (cond (y5.2==2) (cond (y4.1==0) (cond (!y5.1) (Zb zu fun yc=>
some yc) (some false)) (some false)) (some false)) (some false)) fun cc=>
some cc) (Zb (cond (y5.2 !=0) (some true) (Zb (zeZ p_0 s_1 line_2 home_3 from_4 factor_5 gap_6) fun yd=>
some (y5.1 !=yd))) fun cd=>
cond cd (some false) (cond (decide (from_4>200000)) (Zb (cond (y4.2==2) (cond (y4.1==0) (Zb zu fun ye=>
some ye) (some false)) (some false)) fun ce=>
some ce) (Zb (ze0 p_0 s_1 line_2 home_3 from_4 factor_5 gap_6) fun ya=>
cond (!ya.2) (Zb (cond (y4.2==4) (cond (y4.1==0) (Zb zu fun yf=>
some yf) (some false)) (some false)) fun cf=>
some cf) (Zb (cond (y4.2==0) (cond (y4.1==ya.1) (Zb zu fun yg=>
some yg) (some false)) (some false)) fun cg=>
some cg)))))
end Go.Ai.Sx
