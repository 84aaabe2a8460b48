/- Written by program: the data of the functions,and the functions as plain Lean. -/
import Derived.Test.YtppebpagcocogaaGreatU7
set_option linter.unusedSimpArgs false
set_option linter.unusedVariables false
set_option linter.unusedSectionVars false
namespace Go.Ai.Sx
open Option renaming bind->Zb,bind_some->Zs
abbrev Spot:Type:=Int×Int×Unit
abbrev zl:Type:=Int×Bool×Unit
abbrev zcb:Type:=Spot×Int×(List zl)×Int×Unit
abbrev Rail:Type:=Int×Int×(List Spot)×Int×Int×Unit
abbrev Plan:Type:=(List zcb)×(List Rail)×Unit
abbrev zM:Type:=Int×Bool×Unit
abbrev Course:Type:=(List zM)×(List Int)×(List Int)×Unit
abbrev Train:Type:=Int×Int×Int×Int×Int×Int×Int×Int×Int×(List Int)×Unit
abbrev Line:Type:=Course×Course×Train×Int×Int×Unit
abbrev za2:Type:=Plan×(List Int)×(List (zl×Int))×Unit
abbrev zjb:Type:=Plan×Unit×ze×Unit
abbrev zao:Type:=zcb×Unit
abbrev zag:Type:=Train×Int×Unit
abbrev zan:Type:=zag×(List zM)×(List Int)×(List Int)×(List Int)×(List Int)×Unit
abbrev zkL:Type:=zag×(List zM)×Unit×Unit×Unit×(List Int)×Unit
abbrev zd:Type:=Int×Int×Unit
abbrev zV:Type:=Int×Int×Int×Int×Int×Int×Unit
abbrev zaZ:Type:=zd×zV×Int×Int×Unit
abbrev Leg:Type:=Int×Int×zV×Int×Int×Unit
abbrev zo:Type:=Line×(List (List Int))×(List (List Int))×Unit
abbrev zY:Type:=Plan×(List zM)×Train×Int×Int×Unit
abbrev Cover:Type:=Int×Int×Int×Unit
abbrev Service:Type:=(List Line)×(List Int)×(List Int)×Unit
abbrev Connection:Type:=Int×Bool×Int×Int×Bool×Int×Int×Int×Unit
abbrev zr7:Type:=(List Line)×Unit×(List Int)×Unit
abbrev zqA:Type:=(List Line)×Unit×Unit×Unit
abbrev zco:Rep Spot:=(zH (zj .i64) (zH (zj .i64) zcR))
abbrev zP:Rep zl:=(zH (zj .i64) (zH zau zcR))
abbrev zbW:Rep zcb:=(zH zco (zH (zj .i64) (zH (zb zP) (zH (zj .i64) zcR))))
abbrev zdS:Rep Rail:=(zH (zj .i64) (zH (zj .i64) (zH (zb zco) (zH (zj .i64) (zH (zj .i64) zcR)))))
abbrev zaP:Rep Plan:=(zH (zb zbW) (zH (zb zdS) zcR))
abbrev zW:Rep zM:=(zH (zj .i64) (zH zau zcR))
abbrev zcx:Rep Course:=(zH (zb zW) (zH (zb (zj .i64)) (zH (zb (zj .i64)) zcR)))
abbrev zbG:Rep Train:=(zH (zj .i64) (zH (zj .i64) (zH (zj .i64) (zH (zj .i64) (zH (zj .i64) (zH (zj .i64) (zH (zj .i64) (zH (zj .i64) (zH (zj .i64) (zH (zb (zj .i64)) zcR))))))))))
abbrev zav:Rep Line:=(zH zcx (zH zcx (zH zbG (zH (zj .i64) (zH (zj .i64) zcR)))))
abbrev z6:Rep za2:=(zH zaP (zH (zb (zj .i64)) (zH (zqS zP (zj .i64)) zcR)))
abbrev ziG:Rep zjb:=(zH zaP (zH zqU (zH zqR zcR)))
abbrev zak:Rep zao:=(zH zbW zcR)
abbrev zJ:Rep zag:=(zH zbG (zH (zj .i64) zcR))
abbrev zap:Rep zan:=(zH (z5 zJ) (zH (zb zW) (zH (zb (zj .i64)) (zH (zb (zj .i64)) (zH (zb (zj .i64)) (zH (zb (zj .i64)) zcR))))))
abbrev zkd:Rep zkL:=(zH (z5 zJ) (zH (zb zW) (zH zqU (zH zqU (zH zqU (zH (zb (zj .i64)) zcR))))))
abbrev zu:Rep zd:=(zH (zj .i64) (zH (zj .i64) zcR))
abbrev zx:Rep zV:=(zH (zj .i64) (zH (zj .i64) (zH (zj .i64) (zH (zj .i64) (zH (zj .i64) (zH (zj .i64) zcR))))))
abbrev zaB:Rep zaZ:=(zH zu (zH zx (zH (zj .i64) (zH (zj .i64) zcR))))
abbrev zf0:Rep Leg:=(zH (zj .i64) (zH (zj .i64) (zH zx (zH (zj .i64) (zH (zj .i64) zcR)))))
theorem zut:FOk zf0 0 (zj .i64) (λx=>x.1) (λx y=>(y,x.2.1,x.2.2.1,x.2.2.2.1,x.2.2.2.2.1,())):=FOk.off FOk.here rfl
abbrev zg:Rep zo:=(zH zav (zH (zjT 2 (zb (zj .i64))) (zH (zjT 2 (zb (zj .i64))) zcR)))
abbrev zac:Rep zY:=(zH zaP (zH (zb zW) (zH zbG (zH (zj .i64) (zH (zj .i64) zcR)))))
abbrev zgI:Rep Cover:=(zH (zj .i64) (zH (zj .i64) (zH (zj .i64) zcR)))
theorem zqB:FOk zgI 0 (zj .i64) (λx=>x.1) (λx y=>(y,x.2.1,x.2.2.1,())):=FOk.off FOk.here rfl
abbrev zbM:Rep Service:=(zH (zb zav) (zH (zb (zj .i64)) (zH (zb (zj .i64)) zcR)))
abbrev zk:Rep Connection:=(zH (zj .i64) (zH zau (zH (zj .i64) (zH (zj .i64) (zH zau (zH (zj .i64) (zH (zj .i64) (zH (zj .i64) zcR))))))))
abbrev zlp:Rep zr7:=(zH (zb zav) (zH zqU (zH (zb (zj .i64)) zcR)))
abbrev zke:Rep zqA:=(zH (zb zav) (zH zqU (zH zqU zcR)))
theorem zbH {x:zV}:Cells zx x [.val (zj .i64) x.1,.val (zj .i64) x.2.1,.val (zj .i64) x.2.2.1,.val (zj .i64) x.2.2.2.1,.val (zj .i64) x.2.2.2.2.1,.val (zj .i64) x.2.2.2.2.2.1]:=(zq (zt rfl) (zq (zt rfl) (zq (zt rfl) (zq (zt rfl) (zq (zt rfl) (zq (zt rfl) za7 rfl) rfl) rfl) rfl) rfl) rfl)
theorem zg9 {x:zd}:Cells zu x [.val (zj .i64) x.1,.val (zj .i64) x.2.1]:=(zq (zt rfl) (zq (zt rfl) za7 rfl) rfl)
def zdr:List Int:=[0,1,2,2,3,3,3,3,4,4,4,4,4,4,4,4,5,5,5,5,5,5,5,5,5,5,5,5,5,5,5,5,6,6,6,6,6,6,6,6,6,6,6,6,6,6,6,6,6,6,6,6,6,6,6,6,6,6,6,6,6,6,6,6,7,7,7,7,7,7,7,7,7,7,7,7,7,7,7,7,7,7,7,7,7,7,7,7,7,7,7,7,7,7,7,7,7,7,7,7,7,7,7,7,7,7,7,7,7,7,7,7,7,7,7,7,7,7,7,7,7,7,7,7,7,7,7,7,8,8,8,8,8,8,8,8,8,8,8,8,8,8,8,8,8,8,8,8,8,8,8,8,8,8,8,8,8,8,8,8,8,8,8,8,8,8,8,8,8,8,8,8,8,8,8,8,8,8,8,8,8,8,8,8,8,8,8,8,8,8,8,8,8,8,8,8,8,8,8,8,8,8,8,8,8,8,8,8,8,8,8,8,8,8,8,8,8,8,8,8,8,8,8,8,8,8,8,8,8,8,8,8,8,8,8,8,8,8,8,8,8,8,8,8,8,8,8,8,8,8,8,8,8,8,8,8]
def z4 (n_0:Int) (low_1:Int) (high_2:Int):Option (Bool):=
Zb (cond (decide (n_0>=low_1)) (some (decide (n_0<=high_2))) (some false)) λc4=>
some c4
def zbc (s_0:Spot):Option (Bool):=
Zb (Zb (z4 s_0.1 (-10000000) 10000000) λy5=>
cond y5 (Zb (z4 s_0.2.1 (-10000000) 10000000) λy7=>
some y7) (some false)) λc4=>
some c4
def zax (k_0:Int):Option (Int):=
cond (k_0==1) (some 1) (cond (k_0==2) (some 2) (cond (k_0==3) (some 4) (cond (k_0==4) (cond (k_0==4) (some 3) (some 0)) (cond (k_0==5) (cond (k_0==5) (some 3) (some 0)) (cond (k_0==6) (some 3) (some 0))))))
def zc8 (p_0:Plan) (rail_1:Int):Option (List Spot):=
Zb (idx p_0.2.1 rail_1) λx1=>
Zb (idx p_0.1 x1.1) λx3=>
Zb (zdp 16 ([x3.1]) x1.2.2.1) λx5=>
Zb (idx p_0.1 x1.2.1) λx7=>
Zb (zdp 16 x5 ([x7.1])) λx8=>
some x8
def zeB (n_0:Int):Option (Int):=
Zb (iter (σ:=(Int×Int)) (τ:=Int) (λs4=>
cond (decide ((w64 (s4.2-s4.1))>1)) (Zb (zc2 .i64 (w64 (s4.1+s4.2)) 2) λx7=>
cond (decide ((w64 (x7*x7))<=n_0)) (some (.inl (x7,s4.2))) (some (.inl (s4.1,x7)))) (some (.inr s4.1))) big (0,30000000)) λt9=>
some t9
def zc9 (a_0:Spot) (b_1:Spot):Option (Int):=
Zb (zeB (w64 ((w64 ((w64 (a_0.1-b_1.1))*(w64 (a_0.1-b_1.1))))+(w64 ((w64 (a_0.2.1-b_1.2.1))*(w64 (a_0.2.1-b_1.2.1))))))) λy1=>
some y1
def zfb (p_0:Plan) (e_1:zl):Option (Int):=
cond e_1.2.1 (Zb (idx p_0.2.1 e_1.1) λx2=>
some x2.2.1) (Zb (idx p_0.2.1 e_1.1) λx3=>
some x3.1)
def zcO (p_0:Plan):Option (Bool):=
Zb (Zb (z4 (zm p_0.1) 1 300) λy5=>
cond (!y5) (some true) (Zb (z4 (zm p_0.2.1) 1 400) λy7=>
some (!y7))) λc4=>
cond c4 (some false) (Zb (iter (σ:=Int) (τ:=Unit⊕(Bool)) (λsc=>
cond (decide (sc<(zm p_0.1))) (Zb (idx p_0.1 sc) λxa=>
cond (xa.2.1==5) (Zb (z4 xa.2.2.2.1 1 2) λyb=>
Zb (zbc xa.1) λyc=>
cond (!yc) (some (.inr (.inr false))) (Zb (zax xa.2.1) λyd=>
cond (yd==0) (some (.inr (.inr false))) (Zb (zax xa.2.1) λye=>
cond ((zm xa.2.2.1)!=ye) (some (.inr (.inr false))) (cond (!yb) (some (.inr (.inr false))) (some (.inl (w64 (sc+1)))))))) (cond (xa.2.1==6) (Zb (z4 xa.2.2.2.1 1 2) λyf=>
Zb (zbc xa.1) λyg=>
cond (!yg) (some (.inr (.inr false))) (Zb (zax xa.2.1) λyh=>
cond (yh==0) (some (.inr (.inr false))) (Zb (zax xa.2.1) λyi=>
cond ((zm xa.2.2.1)!=yi) (some (.inr (.inr false))) (cond (!yf) (some (.inr (.inr false))) (some (.inl (w64 (sc+1)))))))) (Zb (zbc xa.1) λyj=>
cond (!yj) (some (.inr (.inr false))) (Zb (zax xa.2.1) λyk=>
cond (yk==0) (some (.inr (.inr false))) (Zb (zax xa.2.1) λyl=>
cond ((zm xa.2.2.1)!=yl) (some (.inr (.inr false))) (cond (!(xa.2.2.2.1==0)) (some (.inr (.inr false))) (some (.inl (w64 (sc+1)))))))))) (some (.inr (.inl ())))) big 0) λta=>
alt (λbj=>Zb (iter (σ:=Int) (τ:=Unit⊕(Bool)) (λsd=>
cond (decide (sd<(zm p_0.2.1))) (Zb (idx p_0.2.1 sd) λxb=>
Zb (z4 xb.1 0 (w64 ((zm p_0.1)-1))) λym=>
cond (!ym) (some (.inr (.inr false))) (Zb (z4 xb.2.1 0 (w64 ((zm p_0.1)-1))) λyn=>
cond (!yn) (some (.inr (.inr false))) (cond (decide ((zm xb.2.2.1)>30)) (some (.inr (.inr false))) (Zb (z4 xb.2.2.2.1 1 50000) λyo=>
cond (!yo) (some (.inr (.inr false))) (Zb (z4 xb.2.2.2.2.1 (-120) 120) λyp=>
cond (!yp) (some (.inr (.inr false))) (Zb (iter (σ:=Int) (τ:=Unit⊕(Bool)) (λsf=>
cond (decide (sf<(zm xb.2.2.1))) (Zb (idx xb.2.2.1 sf) λxe=>
Zb (zbc xe) λyq=>
cond (!yq) (some (.inr (.inr false))) (some (.inl (w64 (sf+1))))) (some (.inr (.inl ())))) big 0) λtb=>
alt (λbk=>Zb (zc8 p_0 sd) λya=>
Zb (iter (σ:=Int) (τ:=Unit⊕(Bool)) (λse=>
cond (decide (se<(zm ya))) (Zb (idx ya (w64 (se-1))) λxf=>
Zb (idx ya se) λxg=>
Zb (zc9 xf xg) λyr=>
Zb (z4 yr 1 1000000) λys=>
cond (!ys) (some (.inr (.inr false))) (some (.inl (w64 (se+1))))) (some (.inr (.inl ())))) big 1) λtc=>
alt (λbl=>some (.inl (w64 (sd+1)))) (λba=>some (.inr (.inr ba))) tc) (λbb=>some (.inr (.inr bb))) tb)))))) (some (.inr (.inl ())))) big 0) λtd=>
alt (λbm=>Zb (iter (σ:=((List zl)×Int)) (τ:=(List zl)⊕(Bool)) (λsa=>
cond (decide (sa.2<(zm p_0.1))) (Zb (iter (σ:=((List zl)×Int)) (τ:=(List zl)⊕(Bool)) (λsb=>
Zb (idx p_0.1 sa.2) λxh=>
cond (decide (sb.2<(zm xh.2.2.1))) (Zb (idx p_0.1 sa.2) λxi=>
Zb (idx xi.2.2.1 sb.2) λxd=>
Zb (z4 xd.1 0 (w64 ((zm p_0.2.1)-1))) λyt=>
cond (!yt) (some (.inr (.inr false))) (Zb (zfb p_0 xd) λyu=>
cond (yu !=sa.2) (some (.inr (.inr false))) (Zb (iter (σ:=Int) (τ:=Unit⊕(Bool)) (λsg=>
cond (decide (sg<(zm sb.1))) (Zb (idx sb.1 sg) λxj=>
cond (xj==xd) (some (.inr (.inr false))) (some (.inl (w64 (sg+1))))) (some (.inr (.inl ())))) big 0) λte=>
alt (λbn=>Zb (zdp 16 sb.1 ([xd])) λxk=>
some (.inl (xk,(w64 (sb.2+1))))) (λbc=>some (.inr (.inr bc))) te))) (some (.inr (.inl sb.1)))) big (sa.1,0)) λtf=>
alt (λbd=>some (.inl (bd,(w64 (sa.2+1))))) (λbe=>some (.inr (.inr be))) tf) (some (.inr (.inl sa.1)))) big ([],0)) λtg=>
alt (λbf=>some ((zm bf)==(w64 (2*(zm p_0.2.1))))) (λbg=>some bg) tg) (λbh=>some bh) td) (λbi=>some bi) ta)
def zaw (p_0:Plan) (rail_1:Int):Option (Int):=
Zb (zc8 p_0 rail_1) λy1=>
Zb (iter (σ:=(Int×Int)) (τ:=Int) (λsa=>
cond (decide (sa.2<(zm y1))) (Zb (idx y1 (w64 (sa.2-1))) λxa=>
Zb (idx y1 sa.2) λxb=>
Zb (zc9 xa xb) λya=>
some (.inl ((w64 (sa.1+ya)),(w64 (sa.2+1))))) (some (.inr sa.1))) big (0,1)) λta=>
some ta
def zd1 (p_0:Plan):Option (Bool):=
Zb (cond (decide ((zm p_0.1)>12)) (some true) (some (decide ((zm p_0.2.1)>12)))) λc4=>
cond c4 (some false) (Zb (iter (σ:=Int) (τ:=Unit⊕(Bool)) (λsb=>
cond (decide (sb<(zm p_0.1))) (Zb (idx p_0.1 sb) λxa=>
cond (decide ((zm xa.2.2.1)>6)) (some (.inr (.inr false))) (some (.inl (w64 (sb+1))))) (some (.inr (.inl ())))) big 0) λta=>
alt (λbc=>Zb (iter (σ:=Int) (τ:=Unit⊕(Bool)) (λsc=>
cond (decide (sc<(zm p_0.2.1))) (Zb (idx p_0.2.1 sc) λxb=>
cond (decide ((zm xb.2.2.1)>10)) (some (.inr (.inr false))) (some (.inl (w64 (sc+1))))) (some (.inr (.inl ())))) big 0) λtb=>
alt (λbd=>Zb (zcO p_0) λya=>
cond ya (Zb (iter (σ:=(Int×Int)) (τ:=Int) (λsa=>
cond (decide (sa.2<(zm p_0.2.1))) (Zb (zaw p_0 sa.2) λyb=>
some (.inl ((w64 (sa.1+yb)),(w64 (sa.2+1))))) (some (.inr sa.1))) big (0,0)) λtc=>
some (decide (tc<=200000))) (some (decide (0<=200000)))) (λba=>some ba) tb) (λbb=>some bb) ta)
def zcP (l_0:Line):Option (Bool):=
Zb (cond (decide ((zm l_0.1.1)<=12)) (cond (decide ((zm l_0.2.1.1)<=12)) (cond (decide ((zm l_0.1.2.1)<=6)) (cond (decide ((zm l_0.2.1.2.1)<=6)) (cond (decide ((zm l_0.1.2.2.1)<=8)) (cond (decide ((zm l_0.2.1.2.2.1)<=8)) (cond (decide ((zm l_0.2.2.1.2.2.2.2.2.2.2.2.2.1)<=10)) (cond (decide (l_0.2.2.1.2.2.2.2.1>=200)) (cond (decide (l_0.2.2.1.2.2.2.1>=200)) (some (decide (l_0.2.2.1.1<=4000))) (some false)) (some false)) (some false)) (some false)) (some false)) (some false)) (some false)) (some false)) (some false)) λca=>
some ca
def zw (x_0:Int) (low_1:Int) (high_2:Int):Option (Bool):=
Zb (cond (decide (x_0>=low_1)) (some (decide (x_0<=high_2))) (some false)) λc4=>
some c4
def zN (x_0:Int) (low_1:Int) (high_2:Int):Option (Bool):=
Zb (cond (decide (x_0>=low_1)) (some (decide (x_0<=high_2))) (some false)) λc4=>
some c4
def zal (s_0:(List zcb)) (f_1:((zcb)->Option (Bool))):Option (Int):=
Zb (iter (σ:=Int) (τ:=Unit⊕(Int)) (λs5=>
cond (decide (s5<(zm s_0))) (Zb (idx s_0 s5) λx8=>
Zb (f_1 x8) λy9=>
cond y9 (some (.inr (.inr s5))) (some (.inl (w64 (s5+1))))) (some (.inr (.inl ())))) big 0) λta=>
alt (λbb=>some (-1)) (λba=>some ba) ta
def zad (s_0:(List zcb)) (f_1:((zcb)->Option (Bool))):Option (Bool):=
Zb (zal s_0 f_1) λy1=>
some (decide (y1>=0))
def zcI (s_0:Spot):Option (Bool):=
Zb (Zb (zN s_0.1 (-10000000) 10000000) λy5=>
cond y5 (Zb (zN s_0.2.1 (-10000000) 10000000) λy7=>
some y7) (some false)) λc4=>
some c4
def ze1 :Option (List Int):=
some (List.replicate 1 0++([1,2,4,3,3,3]:(List Int)))
def zeC (n_0:zcb):Option (Bool):=
Zb (cond (decide (n_0.2.1<1)) (some true) (cond (decide (n_0.2.1>6)) (some true) (Zb (zcI n_0.1) λya=>
cond (!ya) (some true) (Zb ze1 λyb=>
Zb (idx yb n_0.2.1) λxa=>
some ((zm n_0.2.2.1)!=xa))))) λca=>
cond ca (some false) (Zb (cond (n_0.2.1==5) (some true) (some (n_0.2.1==6))) λcc=>
cond cc (Zb (zN n_0.2.2.2.1 1 2) λyc=>
some yc) (some (n_0.2.2.2.1==0)))
def zfo (n_0:zcb):Option (Bool):=
Zb (zeC n_0) λy1=>
some (!y1)
def zam (s_0:(List Rail)) (f_1:((Rail)->Option (Bool))):Option (Int):=
Zb (iter (σ:=Int) (τ:=Unit⊕(Int)) (λs5=>
cond (decide (s5<(zm s_0))) (Zb (idx s_0 s5) λx8=>
Zb (f_1 x8) λy9=>
cond y9 (some (.inr (.inr s5))) (some (.inl (w64 (s5+1))))) (some (.inr (.inl ())))) big 0) λta=>
alt (λbb=>some (-1)) (λba=>some ba) ta
def zae (s_0:(List Rail)) (f_1:((Rail)->Option (Bool))):Option (Bool):=
Zb (zam s_0 f_1) λy1=>
some (decide (y1>=0))
def zah (n_1:Int):Option (List Spot):=
cond (decide (n_1<0)) none (cond (decide ((w64 (n_1-(w64 (0-0))))>0)) (Zb (zrZ 16 (w64 (n_1-(w64 (0-0)))) ((0,0,()):Spot)) λx3=>
Zb (slz x3) λx5=>
some ([]:List Spot)) (some ([])))
def zaf (slices_0:(List (List Spot))):Option (List Spot):=
Zb (iter (σ:=(Int×Int)) (τ:=Int) (λs4=>
cond (decide (s4.2<(zm slices_0))) (Zb (idx slices_0 s4.2) λx7=>
cond (decide ((w64 (s4.1+(zm x7)))<0)) none (some (.inl ((w64 (s4.1+(zm x7))),(w64 (s4.2+1)))))) (some (.inr s4.1))) big (0,0)) λt9=>
Zb (zah t9) λya=>
Zb (iter (σ:=((List Spot)×Int)) (τ:=(List Spot)) (λsa=>
cond (decide (sa.2<(zm slices_0))) (Zb (idx slices_0 sa.2) λxa=>
Zb (zdp 16 sa.1 xa) λxb=>
some (.inl (xb,(w64 (sa.2+1))))) (some (.inr sa.1))) big (ya,0)) λta=>
some ta
def zdN (p_0:Plan) (r_1:Rail):Option (List Spot):=
Zb (idx p_0.1 r_1.1) λx5=>
Zb (idx p_0.1 r_1.2.1) λx6=>
Zb (zaf ([[x5.1],r_1.2.2.1,[x6.1]])) λy7=>
some y7
def zeD (n_0:Int):Option (Int):=
Zb (FloatKind.f64.format.sqrt (FloatKind.f64.nearest n_0)) λx1=>
Zb (f2i x1) λx2=>
Zb (iter (σ:=Int) (τ:=Int) (λs4=>
cond (decide ((w64 (s4*s4))>n_0)) (some (.inl (w64 (s4-1)))) (some (.inr s4))) big x2) λt7=>
Zb (iter (σ:=Int) (τ:=Int) (λsa=>
cond (decide ((w64 ((w64 (sa+1))*(w64 (sa+1))))<=n_0)) (some (.inl (w64 (sa+1)))) (some (.inr sa))) big t7) λta=>
some ta
def zcJ (a_0:Spot) (b_1:Spot):Option (Int):=
Zb (zeD (w64 ((w64 ((w64 (a_0.1-b_1.1))*(w64 (a_0.1-b_1.1))))+(w64 ((w64 (a_0.2.1-b_1.2.1))*(w64 (a_0.2.1-b_1.2.1))))))) λy1=>
some y1
def zeE (p_0:Plan) (r_1:Rail):Option (Bool):=
Zb (Zb (zN r_1.1 0 (w64 ((zm p_0.1)-1))) λyb=>
cond (!yb) (some true) (Zb (zN r_1.2.1 0 (w64 ((zm p_0.1)-1))) λyc=>
cond (!yc) (some true) (cond (decide ((zm r_1.2.2.1)>30)) (some true) (Zb (zN r_1.2.2.2.1 1 50000) λyd=>
cond (!yd) (some true) (Zb (zN r_1.2.2.2.2.1 (-120) 120) λye=>
some (!ye)))))) λc9=>
cond c9 (some false) (Zb (zdN p_0 r_1) λya=>
Zb (iter (σ:=Int) (τ:=Unit⊕(Bool)) (λsa=>
cond (decide (sa<(zm ya))) (Zb (idx ya sa) λxa=>
Zb (zcI xa) λyf=>
cond (!yf) (some (.inr (.inr false))) (cond (decide (sa>0)) (Zb (idx ya (w64 (sa-1))) λxb=>
Zb (zcJ xb xa) λyg=>
Zb (zN yg 1 1000000) λyh=>
cond (!yh) (some (.inr (.inr false))) (some (.inl (w64 (sa+1))))) (some (.inl (w64 (sa+1)))))) (some (.inr (.inl ())))) big 0) λta=>
alt (λbb=>some true) (λba=>some ba) ta)
def zd2 (r_0:Rail) (p_1:Plan):Option (Bool):=
Zb (zeE p_1 r_0) λy1=>
some (!y1)
def zcp (p_0:Plan) (e_1:zl):Option (Int):=
cond e_1.2.1 (Zb (idx p_0.2.1 e_1.1) λx2=>
some x2.2.1) (Zb (idx p_0.2.1 e_1.1) λx3=>
some x3.1)
def zdj (p_0:Plan):Option (Int):=
Zb (Zb (zN (zm p_0.1) 1 300) λy5=>
cond (!y5) (some true) (Zb (zN (zm p_0.2.1) 1 400) λy7=>
some (!y7))) λc4=>
cond c4 (some 2) (Zb (Zb (zad p_0.1 (λx=>zfo x)) λya=>
cond ya (some true) (Zb (zae p_0.2.1 (λx=>zd2 x p_0)) λyb=>
some yb)) λca=>
cond ca (some 2) (Zb (iter (σ:=(Int×(List (zl×Bool)))) (τ:=(List (zl×Bool))⊕(Int)) (λsb=>
cond (decide (sb.1<(zm p_0.1))) (Zb (idx p_0.1 sb.1) λxb=>
Zb (iter (σ:=(Int×(List (zl×Bool)))) (τ:=(List (zl×Bool))⊕(Int×(List (zl×Bool)))) (λsa=>
cond (decide (sa.1<(zm xb.2.2.1))) (Zb (idx xb.2.2.1 sa.1) λxa=>
Zb (zN xa.1 0 (w64 ((zm p_0.2.1)-1))) λyc=>
cond (!yc) (some (.inr (.inr (2,sa.2)))) (cond ((mget sa.2 xa).getD false) (some (.inr (.inr (2,sa.2)))) (Zb (zcp p_0 xa) λyd=>
cond (yd !=sb.1) (some (.inr (.inr (2,sa.2)))) (some (.inl ((w64 (sa.1+1)),(mset sa.2 xa true))))))) (some (.inr (.inl sa.2)))) big (0,sb.2)) λta=>
alt (λba=>some (.inl ((w64 (sb.1+1)),ba))) (λbb=>some (.inr (.inr bb.1))) ta) (some (.inr (.inl sb.2)))) big (0,([]:(List (zl×Bool))))) λtb=>
alt (λbc=>Zb (zum bc) λxd=>
cond (xd !=(w64 (2*(zm p_0.2.1)))) (some 2) (some 0)) (λbd=>some bd) tb))
def zaX (l_0:Line):Option (List Course):=
some ([l_0.1,l_0.2.1]:(List Course))
def zdO (p_0:Plan):Option ((Option za2)×Bool):=
Zb (zdj p_0) λy1=>
cond (y1 !=0) (some ((none:Option za2),false)) (Zb (iter (σ:=(Int×(List Int))) (τ:=(List Int)) (λsc=>
cond (decide (sc.1<(zm p_0.2.1))) (Zb (idx p_0.2.1 sc.1) λxb=>
Zb (zdN p_0 xb) λya=>
Zb (iter (σ:=(Int×Int)) (τ:=Int) (λsa=>
cond (decide (sa.2<(zm ya))) (Zb (idx ya (w64 (sa.2-1))) λxd=>
Zb (idx ya sa.2) λxe=>
Zb (zcJ xd xe) λyb=>
some (.inl ((w64 (sa.1+yb)),(w64 (sa.2+1))))) (some (.inr sa.1))) big (0,1)) λta=>
Zb (zdp 8 sc.2 ([ta])) λxf=>
some (.inl ((w64 (sc.1+1)),xf))) (some (.inr sc.2))) big (0,[])) λtb=>
Zb (iter (σ:=(Int×(List (zl×Int)))) (τ:=(List (zl×Int))) (λsd=>
cond (decide (sd.1<(zm p_0.1))) (Zb (idx p_0.1 sd.1) λxa=>
Zb (iter (σ:=(Int×(List (zl×Int)))) (τ:=(List (zl×Int))) (λsb=>
cond (decide (sb.1<(zm xa.2.2.1))) (Zb (idx xa.2.2.1 sb.1) λxg=>
some (.inl ((w64 (sb.1+1)),(mset sb.2 xg sb.1)))) (some (.inr sb.2))) big (0,sd.2)) λtc=>
some (.inl ((w64 (sd.1+1)),tc))) (some (.inr sd.2))) big (0,([]:(List (zl×Int))))) λtd=>
some ((some ((p_0.1,p_0.2.1,()),tb,td,())),true))
def zbq (n_0:za2) (m_1:zM):Option (Bool):=
Zb (zN m_1.1 0 (w64 ((zm n_0.1.2.1)-1))) λy2=>
some y2
def zd3 (m_0:zM):Option (zl):=
some ((m_0.1,(!m_0.2.1),()):zl)
def zfp (p_0:zao) (from_1:Int) (to_2:Int):Option (Bool):=
some false
def zeF (p_0:zao) (from_1:Int) (to_2:Int):Option (Bool):=
some (from_1 !=to_2)
def zbI (p_0:zao) (from_1:Int) (to_2:Int):Option (Bool):=
Zb (cond (from_1 !=to_2) (Zb (zl5 (w64 (from_1+to_2)) 2) λx6=>
some (x6==0)) (some false)) λc4=>
some c4
def zb5 (p_0:zao) (from_1:Int) (to_2:Int):Option (Bool):=
Zb (cond (from_1 !=to_2) (cond (from_1==0) (some true) (some (to_2==0))) (some false)) λc4=>
some c4
def zbi (x_0:zao) (from_1:Int) (to_2:Int):Option (Bool):=
Zb (cond (from_1 !=0) (cond (to_2==0) (some true) (cond (from_1==0) (some (to_2==x_0.1.2.2.2.1)) (some false))) (cond (from_1==0) (some (to_2==x_0.1.2.2.2.1)) (some false))) λc5=>
some c5
def zbj (x_0:zao) (from_1:Int) (to_2:Int):Option (Bool):=
Zb (cond (from_1==0) (cond (to_2==x_0.1.2.2.2.1) (some true) (cond (from_1==x_0.1.2.2.2.1) (some (to_2==0)) (some false))) (cond (from_1==x_0.1.2.2.2.1) (some (to_2==0)) (some false))) λc5=>
some c5
def za8 (x_0:zao) (from_1:Int) (to_2:Int):Option (Bool):=
Zb (idx (List.replicate 1 (λ_=>none)++([(λx=>zfp x.1 x.2.1 x.2.2),(λx=>zeF x.1 x.2.1 x.2.2),(λx=>zbI x.1 x.2.1 x.2.2),(λx=>zb5 x.1 x.2.1 x.2.2),(λx=>zbi x.1 x.2.1 x.2.2),(λx=>zbj x.1 x.2.1 x.2.2)]:(List ((zao×Int×Int)->Option Bool)))) x_0.1.2.1) λx4=>
Zb (x4 (x_0,from_1,to_2)) λy5=>
some y5
def zdw (m_0:zM):Option (Int):=
cond m_0.2.1 (some (w64 ((w64 (2*m_0.1))+1))) (some (w64 (2*m_0.1)))
def zda (x_0:Int):Option (Bool):=
some (x_0 !=x_0)
def zaQ (x_0:Int) (y_1:Int):Option (Bool):=
Zb (Zb (zda x_0) λy6=>
cond y6 (Zb (zda y_1) λy8=>
cond (!y8) (some true) (some (decide (x_0<y_1)))) (some (decide (x_0<y_1)))) λc5=>
some c5
def zT   (data_0:(List Int)) (a_1:Int) (b_2:Int):Option (List Int):=
Zb (iter (σ:=(Int×(List Int))) (τ:=(List Int)) (λsb=>
cond (decide (sb.1<b_2)) (Zb (iter (σ:=(Int×(List Int))) (τ:=(List Int)) (λsa=>
cond (decide (sa.1>a_1)) (Zb (idx sa.2 sa.1) λxb=>
Zb (idx sa.2 (w64 (sa.1-1))) λxd=>
Zb (zaQ xb xd) λya=>
cond ya (Zb (idx sa.2 (w64 (sa.1-1))) λxa=>
Zb (idx sa.2 sa.1) λxe=>
Zb (idx sa.2 sa.1) λxf=>
Zb (idx ((sa.2).set (Int.toNat sa.1) xa) (w64 (sa.1-1))) λxg=>
some (.inl ((w64 (sa.1-1)),((sa.2).set (Int.toNat sa.1) xa).set (Int.toNat (w64 (sa.1-1))) xe))) (some (.inr sa.2))) (some (.inr sa.2))) big (sb.1,sb.2)) λta=>
some (.inl ((w64 (sb.1+1)),ta))) (some (.inr sb.2))) big ((w64 (a_1+1)),data_0)) λtb=>
some tb
def zeo (x_0:Int):Option (Int):=
cond (decide (x_0>=4294967296)) (Zb (zoy .u64 x_0 32) λx2=>
cond (decide (x2>=65536)) (Zb (zoy .u64 x2 16) λx4=>
cond (decide (x4>=256)) (Zb (zoy .u64 x4 8) λx6=>
Zb (idx zdr (IntKind.u8.wrap x6)) λx7=>
some (w64 ((w64 ((w64 (32+16))+8))+(w64 x7)))) (Zb (idx zdr (IntKind.u8.wrap x4)) λx8=>
some (w64 ((w64 (32+16))+(w64 x8))))) (cond (decide (x2>=256)) (Zb (zoy .u64 x2 8) λxb=>
Zb (idx zdr (IntKind.u8.wrap xb)) λxd=>
some (w64 ((w64 (32+8))+(w64 xd)))) (Zb (idx zdr (IntKind.u8.wrap x2)) λxe=>
some (w64 (32+(w64 xe)))))) (cond (decide (x_0>=65536)) (Zb (zoy .u64 x_0 16) λxa=>
cond (decide (xa>=256)) (Zb (zoy .u64 xa 8) λxf=>
Zb (idx zdr (IntKind.u8.wrap xf)) λxg=>
some (w64 ((w64 ((w64 (0+16))+8))+(w64 xg)))) (Zb (idx zdr (IntKind.u8.wrap xa)) λxh=>
some (w64 ((w64 (0+16))+(w64 xh))))) (cond (decide (x_0>=256)) (Zb (zoy .u64 x_0 8) λxi=>
Zb (idx zdr (IntKind.u8.wrap xi)) λxj=>
some (w64 ((w64 (0+8))+(w64 xj)))) (Zb (idx zdr (IntKind.u8.wrap x_0)) λxk=>
some (w64 (0+(w64 xk))))))
def zd4 (x_0:Int):Option (Int):=
Zb (zeo x_0) λy2=>
some y2
def za3   (data_0:(List Int)) (a_1:Int) (b_2:Int) (limit_3:Int):Option (List Int):=
Zb (iter (σ:=(Int×Int×Int×Bool×Bool×(List Int))) (τ:=(List Int)) (λsa=>
cond (decide ((w64 (sa.2.1-sa.1))<=12)) (Zb (zT sa.2.2.2.2.2 sa.1 sa.2.1) λya=>
some (.inr ya)) (cond (sa.2.2.1==0) none (cond (!sa.2.2.2.1) none none))) big (a_1,b_2,limit_3,true,true,data_0)) λta=>
some ta
def zbJ   (x_0:(List Int)):Option (List Int):=
Zb (zd4 (IntKind.u64.wrap (zm x_0))) λy1=>
Zb (za3 x_0 0 (zm x_0) y1) λy2=>
some y2
def zeG (n_0:Int):Option (zM):=
Zb (zc2 .i64 n_0 2) λx2=>
Zb (zl5 n_0 2) λx3=>
some ((x2,(x3==1),()):zM)
def zbk {σ τ:Type} (step:σ->(zM)->Option (σ⊕τ)) (s_:σ) (p_1:za2) (p_2:zM):Option (σ⊕τ):=
Zb (zd3 p_2) λy5=>
Zb (zcp p_1.1 y5) λy6=>
Zb (idx p_1.1.1 y6) λx7=>
Zb (iter (σ:=((List Int)×Int)) (τ:=(List Int)) (λsa=>
cond (decide (sa.2<(zm x7.2.2.1))) (Zb (idx x7.2.2.1 sa.2) λxa=>
Zb (zd3 p_2) λyc=>
Zb (za8 ((x7,()):zao) ((mget p_1.2.2.1 yc).getD 0) sa.2) λyd=>
cond yd (Zb (zdw ((xa.1,xa.2.1,()):zM)) λye=>
Zb (zdp 8 sa.1 ([ye])) λxb=>
some (.inl (xb,(w64 (sa.2+1))))) (some (.inl (sa.1,(w64 (sa.2+1)))))) (some (.inr sa.1))) big ([],0)) λta=>
Zb (zbJ ta) λyb=>
Zb (iter (σ:=(Int×(σ⊕τ))) (τ:=(σ⊕τ)⊕(σ⊕τ)) (λsb=>
cond (decide (sb.1<(zm yb))) (Zb (idx yb sb.1) λxd=>
Zb (zeG xd) λyf=>
Zb (goL sb.2) λsc=>
Zb (step sc yf) λya=>
cond (!(ya).isLeft) (some (.inr (.inr ya))) (some (.inl ((w64 (sb.1+1)),ya)))) (some (.inr (.inl sb.2)))) big (0,(.inl s_))) λtb=>
alt (λba=>some ba) (λbb=>some bb) tb
def zcs (n_0:za2) (m_1:zM):Option (za2×zM):=
some (n_0,m_1)
def zaJ (n_0:za2) (m_1:zM) (k_2:zM):Option (Bool):=
Zb (zcs n_0 m_1) λy2=>
Zb (zbk (σ:=Bool) (τ:=Bool) (λs8 x3=>
cond (x3==k_2) (some (.inr true)) (some (.inl s8))) false y2.1 y2.2) λta=>
alt (λbb=>some false) (λba=>some ba) ta
def zb6 (n_0:za2) (l_1:(List zM)):Option (Bool):=
Zb (iter (σ:=Int) (τ:=Unit⊕(Bool)) (λsa=>
cond (decide (sa<(zm l_1))) (Zb (idx l_1 sa) λxa=>
Zb (zbq n_0 xa) λya=>
cond (!ya) (some (.inr (.inr false))) (cond (decide (sa>0)) (Zb (idx l_1 (w64 (sa-1))) λxb=>
Zb (zaJ n_0 xb xa) λyb=>
cond (!yb) (some (.inr (.inr false))) (some (.inl (w64 (sa+1))))) (some (.inl (w64 (sa+1)))))) (some (.inr (.inl ())))) big 0) λta=>
alt (λbb=>Zb (zN (zm l_1) 1 2000) λyc=>
some yc) (λba=>some ba) ta
def zaR (n_0:za2) (l_1:(List zM)):Option (Int):=
Zb (iter (σ:=(Int×Int)) (τ:=Int) (λs6=>
cond (decide (s6.2<(zm l_1))) (Zb (idx l_1 s6.2) λx9=>
Zb (idx n_0.2.1 x9.1) λxa=>
some (.inl ((w64 (s6.1+xa)),(w64 (s6.2+1))))) (some (.inr s6.1))) big (0,0)) λta=>
some ta
def zbZ (p_0:Plan) (way_1:(List zM)):Option (Int×Int):=
Zb (zdO p_0) λy1=>
Zb (cond (!y1.2) (some true) (Zb y1.1 λp7=>
Zb (zb6 p7 way_1) λy8=>
some (!y8))) λc5=>
cond c5 (some (0,2)) (Zb y1.1 λpa=>
Zb (zaR pa way_1) λya=>
some (ya,0))
def zO (n_0:Int) (low_1:Int) (high_2:Int):Option (Bool):=
Zb (cond (decide (n_0>=low_1)) (some (decide (n_0<=high_2))) (some false)) λc4=>
some c4
def zbf (s_0:(List Int)) (f_1:((Int)->Option (Bool))):Option (Int):=
Zb (iter (σ:=Int) (τ:=Unit⊕(Int)) (λs5=>
cond (decide (s5<(zm s_0))) (Zb (idx s_0 s5) λx8=>
Zb (f_1 x8) λy9=>
cond y9 (some (.inr (.inr s5))) (some (.inl (w64 (s5+1))))) (some (.inr (.inl ())))) big 0) λta=>
alt (λbb=>some (-1)) (λba=>some ba) ta
def zas (s_0:(List Int)) (f_1:((Int)->Option (Bool))):Option (Bool):=
Zb (zbf s_0 f_1) λy1=>
some (decide (y1>=0))
def zeT (g_0:Int):Option (Bool):=
Zb (zO g_0 1 1000) λy1=>
some (!y1)
def zdx (t_0:Train):Option (Int):=
Zb (Zb (zO t_0.1 1000 80000) λya=>
cond (!ya) (some true) (Zb (zO t_0.2.1 1 60000) λyb=>
cond (!yb) (some true) (Zb (zO t_0.2.2.1 1 25000) λyc=>
cond (!yc) (some true) (Zb (zO t_0.2.2.2.1 1 200000) λyd=>
cond (!yd) (some true) (Zb (zO t_0.2.2.2.2.1 1 200000) λye=>
cond (!ye) (some true) (Zb (zO t_0.2.2.2.2.2.1 1 2000000) λyf=>
cond (!yf) (some true) (Zb (zO t_0.2.2.2.2.2.2.1 0 100000) λyg=>
cond (!yg) (some true) (Zb (zO t_0.2.2.2.2.2.2.2.1 0 10000) λyh=>
cond (!yh) (some true) (Zb (zO t_0.2.2.2.2.2.2.2.2.1 0 100) λyi=>
some (!yi)))))))))) λca=>
cond ca (some 2) (Zb (Zb (zO (zm t_0.2.2.2.2.2.2.2.2.2.1) 1 8) λyj=>
cond (!yj) (some true) (Zb (zas t_0.2.2.2.2.2.2.2.2.2.1 (λx=>zeT x)) λyk=>
some yk)) λcc=>
cond cc (some 2) (some 0))
def zdb (t_0:Train) (state_1:Int):Option ((Option zag)×Bool):=
Zb (Zb (zdx t_0) λy5=>
cond (y5 !=0) (some true) (Zb (zO state_1 0 (w64 ((zm t_0.2.2.2.2.2.2.2.2.2.1)-1))) λy7=>
some (!y7))) λc4=>
cond c4 (some ((none:Option zag),false)) (some ((some ((t_0,state_1,()):zag)),true))
def zbX (p_0:Plan) (rail_1:Int):Option (Int×Int):=
Zb (zdO p_0) λy1=>
Zb (cond (!y1.2) (some true) (Zb y1.1 λp7=>
Zb (zbq p7 ((rail_1,false,()):zM)) λy8=>
some (!y8))) λc5=>
cond c5 (some (0,2)) (Zb y1.1 λpa=>
Zb (idx pa.2.1 rail_1) λxa=>
some (xa,0))
def zdy (p_0:Plan) (way_1:(List zM)) (t_2:Train) (state_3:Int) (stops_4:(List Int)):Option ((Option zan)×Bool):=
Zb (zdb t_2 state_3) λy1=>
Zb (zbZ p_0 way_1) λy2=>
Zb (cond (!y1.2) (some true) (cond (y2.2 !=0) (some true) (Zb (zO (zm stops_4) 2 100) λyb=>
cond (!yb) (some true) (Zb (idx stops_4 0) λxd=>
cond (decide (xd<t_2.2.1)) (some true) (Zb (idx stops_4 (w64 ((zm stops_4)-1))) λxe=>
some (decide (xe>y2.1))))))) λca=>
cond ca (some ((none:Option zan),false)) (Zb (iter (σ:=Int) (τ:=Unit⊕((Option zan)×Bool)) (λsb=>
cond (decide (sb<(zm stops_4))) (Zb (idx stops_4 sb) λxf=>
Zb (idx stops_4 (w64 (sb-1))) λxg=>
cond (decide (xf<=xg)) (some (.inr (.inr ((none:Option zan),false)))) (some (.inl (w64 (sb+1))))) (some (.inr (.inl ())))) big 1) λta=>
alt (λbd=>Zb y1.1 λpa=>
Zb (iter (σ:=(Int×Int×(List Int)×(List Int)×(List Int))) (τ:=((List Int)×(List Int)×(List Int))⊕((Option zan)×Bool×(List Int)×(List Int)×(List Int))) (λsa=>
cond (decide (sa.2.1<(zm way_1))) (Zb (idx way_1 sa.2.1) λxb=>
Zb (zbX p_0 xb.1) λya=>
cond (ya.2 !=0) (some (.inr (.inr ((none:Option zan),false,sa.2.2.2.2,sa.2.2.2.1,sa.2.2.1)))) (Zb (idx p_0.2.1 xb.1) λxa=>
cond xb.2.1 (Zb (zdp 8 sa.2.2.2.2 ([(w64 (sa.1+ya.1))])) λxh=>
Zb (zdp 8 sa.2.2.2.1 ([xa.2.2.2.1])) λxi=>
Zb (zdp 8 sa.2.2.1 ([(w64 (0-xa.2.2.2.2.1))])) λxj=>
some (.inl ((w64 (sa.1+ya.1)),(w64 (sa.2.1+1)),xj,xi,xh))) (Zb (zdp 8 sa.2.2.2.2 ([(w64 (sa.1+ya.1))])) λxk=>
Zb (zdp 8 sa.2.2.2.1 ([xa.2.2.2.1])) λxl=>
Zb (zdp 8 sa.2.2.1 ([xa.2.2.2.2.1])) λxm=>
some (.inl ((w64 (sa.1+ya.1)),(w64 (sa.2.1+1)),xm,xl,xk))))) (some (.inr (.inl (sa.2.2.2.2,sa.2.2.2.1,sa.2.2.1))))) big (0,0,[],[],[])) λtb=>
alt (λba=>some ((some (pa,way_1,ba.1,ba.2.1,ba.2.2,stops_4,())),true)) (λbb=>some (bb.1,bb.2.1)) tb) (λbc=>some (bc.1,bc.2)) ta)
def zR (m_0:zag) (x_1:zd):Option (Int):=
Zb (zc2 .i64 x_1.2.1 (w64 (10*m_0.1.1))) λx2=>
some x2
def zc0 (x_0:Int):Option (Bool):=
some (x_0 !=x_0)
def zE (x_0:(List Int)) (target_1:Int):Option (Int×Bool):=
Zb (iter (σ:=(Int×Int)) (τ:=Int) (λs6=>
cond (decide (s6.1<s6.2)) (Zb (zoy .u64 (IntKind.u64.wrap (w64 (s6.1+s6.2))) 1) λx9=>
Zb (idx x_0 (w64 x9)) λxa=>
Zb (zaQ xa target_1) λya=>
cond ya (some (.inl ((w64 ((w64 x9)+1)),s6.2))) (some (.inl (s6.1,(w64 x9))))) (some (.inr s6.1))) big (0,(zm x_0))) λta=>
Zb (cond (decide (ta<(zm x_0))) (Zb (idx x_0 ta) λxb=>
cond (xb==target_1) (some (ta,true)) (Zb (idx x_0 ta) λxd=>
Zb (zc0 xd) λyb=>
cond yb (Zb (zc0 target_1) λyc=>
some (ta,yc)) (some (ta,false)))) (some (ta,false))) λca=>
some (ca.1,ca.2)
def zaA (r_0:zan) (x_1:zd):Option (Int):=
Zb (zR r_0.1 x_1) λy2=>
Zb (zE r_0.2.2.1 (w64 (y2+1))) λy3=>
Zb (idx r_0.2.2.2.2.1 (min y3.1 (w64 ((zm r_0.2.2.2.2.1)-1)))) λx5=>
some x5
def za4 (m_0:zag):Option (Int):=
Zb (idx m_0.1.2.2.2.2.2.2.2.2.2.1 m_0.2.1) λx3=>
Zb (zc2 .i64 (w64 ((w64 (x3*m_0.1.1))*981)) 100000) λx4=>
some x4
def zaU (m_0:zag) (v_1:Int) (demand_2:Int) (slope_3:Int):Option (Int):=
cond (decide (demand_2<=0)) (some 0) (Zb (zc2 .i64 (w64 (m_0.1.2.2.2.1*demand_2)) 4) λx4=>
Zb (za4 m_0) λy5=>
cond (decide (v_1>0)) (Zb (zc2 .i64 (w64 (1000*m_0.1.2.2.2.2.2.1)) v_1) λx7=>
some (min (min x4 y5) x7)) (some (min x4 y5)))
def zaM (m_0:zag) (v_1:Int) (demand_2:Int) (slope_3:Int):Option (Int):=
cond (decide (demand_2>=0)) (some 0) (Zb (zc2 .i64 (w64 (m_0.1.2.2.2.2.1*(w64 (0-demand_2)))) 4) λx4=>
Zb (za4 m_0) λy5=>
some (min x4 y5))
def zbr (m_0:zag) (v_1:Int) (demand_2:Int) (slope_3:Int):Option (Int):=
Zb (zc2 .i64 (w64 (m_0.1.2.2.2.2.2.2.2.1*v_1)) 1000) λx2=>
some (w64 (m_0.1.2.2.2.2.2.2.1+x2))
def zbs (m_0:zag) (v_1:Int) (demand_2:Int) (slope_3:Int):Option (Int):=
Zb (zc2 .i64 (w64 ((w64 (m_0.1.1*slope_3))*981)) 100000) λx1=>
some x1
def zcg (m_0:zag) (v_1:Int) (demand_2:Int) (slope_3:Int):Option (List Int):=
Zb (iter (σ:=(Int×(List Int))) (τ:=(List Int)) (λsa=>
cond (decide (sa.1<4)) (Zb (idx ([(λx=>zaU m_0 x.1 x.2.1 x.2.2),(λx=>zaM m_0 x.1 x.2.1 x.2.2),(λx=>zbr m_0 x.1 x.2.1 x.2.2),(λx=>zbs m_0 x.1 x.2.1 x.2.2)]:(List ((Int×Int×Int)->Option Int))) sa.1) λxa=>
Zb (xa (v_1,demand_2,slope_3)) λya=>
Zb (idx sa.2 sa.1) λxb=>
some (.inl ((w64 (sa.1+1)),(sa.2).set (Int.toNat sa.1) ya))) (some (.inr sa.2))) big (0,(List.replicate 4 (0:Int)))) λta=>
some ta
def za9 (m_0:zag) (x_1:zd):Option (Int):=
Zb (zc2 .i64 x_1.1 m_0.1.1) λx2=>
some x2
def zaq (m_0:zag) (x_1:zd) (demand_2:Int) (slope_3:Int):Option (zaZ×Bool):=
Zb (za9 m_0 x_1) λy2=>
Zb (zcg m_0 y2 demand_2 slope_3) λy3=>
Zb (idx y3 0) λx5=>
Zb (idx y3 1) λx6=>
Zb (idx y3 2) λx7=>
Zb (idx y3 3) λx8=>
Zb (cond (decide ((w64 (x_1.1+(w64 (100*(w64 ((w64 ((w64 (x5-x6))-x7))-x8))))))<0)) (some true) (cond (x_1.1==0) (some (decide ((w64 ((w64 ((w64 (x5-x6))-x7))-x8))<=0))) (some false))) λca=>
cond ca (Zb (idx y3 0) λxa=>
Zb (idx y3 1) λxb=>
Zb (idx y3 2) λxd=>
Zb (idx y3 3) λxe=>
Zb (idx y3 0) λxf=>
Zb (zc2 .i64 (w64 ((w64 ((w64 (xf*0))+(w64 (1000*m_0.1.1))))-1)) (w64 (1000*m_0.1.1))) λxg=>
Zb (idx y3 1) λxh=>
Zb (zc2 .i64 (w64 ((w64 (xh*0))*m_0.1.2.2.2.2.2.2.2.2.1)) (w64 (100000*m_0.1.1))) λxi=>
some (((0,(w64 (x_1.2.1+0)),()),((w64 ((w64 (200*xa))*0)),(w64 ((w64 (200*xb))*0)),(w64 ((w64 (200*xd))*0)),(w64 ((w64 (200*xe))*0)),0,(w64 (x_1.1*x_1.1)),()),xg,xi,()),(decide (0<=(w64 (25000*m_0.1.1)))))) (Zb (idx y3 0) λxj=>
Zb (idx y3 1) λxk=>
Zb (idx y3 2) λxl=>
Zb (idx y3 3) λxm=>
Zb (idx y3 0) λxn=>
Zb (zc2 .i64 (w64 ((w64 ((w64 (xn*(w64 (x_1.1+(w64 (100*(w64 ((w64 ((w64 (x5-x6))-x7))-x8))))))))+(w64 (1000*m_0.1.1))))-1)) (w64 (1000*m_0.1.1))) λxo=>
Zb (idx y3 1) λxp=>
Zb (zc2 .i64 (w64 ((w64 (xp*(w64 (x_1.1+(w64 (100*(w64 ((w64 ((w64 (x5-x6))-x7))-x8))))))))*m_0.1.2.2.2.2.2.2.2.2.1)) (w64 (100000*m_0.1.1))) λxq=>
some ((((w64 (x_1.1+(w64 (100*(w64 ((w64 ((w64 (x5-x6))-x7))-x8)))))),(w64 (x_1.2.1+(w64 (x_1.1+(w64 (100*(w64 ((w64 ((w64 (x5-x6))-x7))-x8)))))))),()),((w64 ((w64 (200*xj))*(w64 (x_1.1+(w64 (100*(w64 ((w64 ((w64 (x5-x6))-x7))-x8)))))))),(w64 ((w64 (200*xk))*(w64 (x_1.1+(w64 (100*(w64 ((w64 ((w64 (x5-x6))-x7))-x8)))))))),(w64 ((w64 (200*xl))*(w64 (x_1.1+(w64 (100*(w64 ((w64 ((w64 (x5-x6))-x7))-x8)))))))),(w64 ((w64 (200*xm))*(w64 (x_1.1+(w64 (100*(w64 ((w64 ((w64 (x5-x6))-x7))-x8)))))))),(w64 ((w64 (10000*(w64 ((w64 ((w64 (x5-x6))-x7))-x8))))*(w64 ((w64 ((w64 (x5-x6))-x7))-x8)))),0,()),xo,xq,()),(decide ((w64 (x_1.1+(w64 (100*(w64 ((w64 ((w64 (x5-x6))-x7))-x8))))))<=(w64 (25000*m_0.1.1))))))
def zch (r_0:zan) (x_1:zd):Option (Int):=
Zb (zR r_0.1 x_1) λy2=>
Zb (zE r_0.2.2.1 (w64 ((w64 (y2-r_0.1.1.2.1))+1))) λy3=>
Zb (iter (σ:=(Int×Int)) (τ:=Int) (λs8=>
cond (decide (s8.2<(zm r_0.2.2.1))) (Zb (idx r_0.2.2.2.1 s8.2) λxa=>
Zb (idx r_0.2.2.1 s8.2) λxb=>
cond (decide (xb>=y2)) (some (.inr (min s8.1 xa))) (some (.inl ((min s8.1 xa),(w64 (s8.2+1)))))) (some (.inr s8.1))) big (r_0.1.1.2.2.1,y3.1)) λta=>
some ta
def zbt (r_0:zan) (x_1:zd) (stop_2:Int):Option (Bool):=
Zb (Zb (zR r_0.1 x_1) λya=>
cond (decide (ya<=stop_2)) (Zb (za9 r_0.1 x_1) λyb=>
Zb (zch r_0 x_1) λyc=>
some (decide (yb<=yc))) (some false)) λc9=>
some c9
def zaS {σ τ:Type} (step:σ->(zd)->Option (σ⊕τ)) (s_:σ) (p_1:zd) (p_2:zag) (p_3:((zd)->Option (Int))):Option ((σ⊕τ)×zd):=
Zb (iter (σ:=(Int×(σ⊕τ)×Int×Int)) (τ:=((σ⊕τ)×Int×Int)⊕((σ⊕τ)×Int×Int)) (λsa=>
cond (decide (sa.1<36000)) (cond (sa.2.2.1==0) (some (.inr (.inr (sa.2.1,sa.2.2.1,sa.2.2.2)))) (Zb (p_3 (sa.2.2.1,sa.2.2.2,())) λyc=>
Zb (zaq p_2 (sa.2.2.1,sa.2.2.2,()) (-4) yc) λya=>
cond (!ya.2) (some (.inr (.inr (sa.2.1,sa.2.2.1,sa.2.2.2)))) (Zb (goL sa.2.1) λsb=>
Zb (step sb ya.1.1) λyb=>
cond (!(yb).isLeft) (some (.inr (.inr (yb,ya.1.1.1,ya.1.1.2.1)))) (some (.inl ((w64 (sa.1+1)),yb,ya.1.1.1,ya.1.1.2.1)))))) (some (.inr (.inl (sa.2.1,sa.2.2.1,sa.2.2.2))))) big (0,(.inl s_),p_1.1,p_1.2.1)) λta=>
alt (λba=>some (ba.1,(ba.2.1,ba.2.2,()))) (λbb=>some (bb.1,(bb.2.1,bb.2.2,()))) ta
def zbU (m_0:zag) (x_1:zd) (slope_2:((zd)->Option (Int))):Option (zd×zag×((zd)->Option (Int))):=
some (x_1,m_0,slope_2)
def zb0 (r_0:zan) (x_1:zd) (stop_2:Int):Option (Bool):=
Zb (zbt r_0 x_1 stop_2) λy2=>
cond (!y2) (some false) (Zb (zbU r_0.1 x_1 (λx=>zaA r_0 x)) λy7=>
Zb (zaS (σ:=(Int×Int)) (τ:=(Int×Int)) (λsa x9=>
Zb (zbt r_0 x9 stop_2) λya=>
cond (!ya) (some (.inr (sa.1,sa.2))) (some (.inl (x9.1,x9.2.1)))) (x_1.1,x_1.2.1) y7.1 y7.2.1 y7.2.2) λta=>
alt (λba=>some (ba.1==0)) (λbb=>some false) ta.1)
def zaC (r_0:zan) (x_1:zd) (stop_2:Int):Option (zaZ×Bool):=
Zb (zaA r_0 x_1) λy2=>
Zb (iter (σ:=(Bool×Int×Int×Int×Int×Int×Int×Int×Int×Int×Int×Int)) (τ:=(Bool×Int×Int×Int×Int×Int×Int×Int×Int×Int×Int)) (λsa=>
cond (decide (sa.2.1<9)) (Zb (zaq r_0.1 x_1 (w64 (4-sa.2.1)) y2) λya=>
cond ya.2 (Zb (zb0 r_0 ya.1.1 stop_2) λyb=>
cond yb (some (.inr (true,ya.1.1.1,ya.1.1.2.1,ya.1.2.1.1,ya.1.2.1.2.1,ya.1.2.1.2.2.1,ya.1.2.1.2.2.2.1,ya.1.2.1.2.2.2.2.1,ya.1.2.1.2.2.2.2.2.1,ya.1.2.2.1,ya.1.2.2.2.1))) (some (.inl (sa.1,(w64 (sa.2.1+1)),sa.2.2.1,sa.2.2.2.1,sa.2.2.2.2.1,sa.2.2.2.2.2.1,sa.2.2.2.2.2.2.1,sa.2.2.2.2.2.2.2.1,sa.2.2.2.2.2.2.2.2.1,sa.2.2.2.2.2.2.2.2.2.1,sa.2.2.2.2.2.2.2.2.2.2.1,sa.2.2.2.2.2.2.2.2.2.2.2)))) (some (.inl (sa.1,(w64 (sa.2.1+1)),sa.2.2.1,sa.2.2.2.1,sa.2.2.2.2.1,sa.2.2.2.2.2.1,sa.2.2.2.2.2.2.1,sa.2.2.2.2.2.2.2.1,sa.2.2.2.2.2.2.2.2.1,sa.2.2.2.2.2.2.2.2.2.1,sa.2.2.2.2.2.2.2.2.2.2.1,sa.2.2.2.2.2.2.2.2.2.2.2)))) (some (.inr (sa.1,sa.2.2.1,sa.2.2.2.1,sa.2.2.2.2.1,sa.2.2.2.2.2.1,sa.2.2.2.2.2.2.1,sa.2.2.2.2.2.2.2.1,sa.2.2.2.2.2.2.2.2.1,sa.2.2.2.2.2.2.2.2.2.1,sa.2.2.2.2.2.2.2.2.2.2.1,sa.2.2.2.2.2.2.2.2.2.2.2)))) big (false,0,0,0,0,0,0,0,0,0,0,0)) λta=>
some (((ta.2.1,ta.2.2.1,()),(ta.2.2.2.1,ta.2.2.2.2.1,ta.2.2.2.2.2.1,ta.2.2.2.2.2.2.1,ta.2.2.2.2.2.2.2.1,ta.2.2.2.2.2.2.2.2.1,()),ta.2.2.2.2.2.2.2.2.2.1,ta.2.2.2.2.2.2.2.2.2.2,()),ta.1)
def zcK (l_0:(List zV)):Option (zV):=
Zb (iter (σ:=(Int×Int×Int×Int×Int×Int×Int)) (τ:=(Int×Int×Int×Int×Int×Int)) (λs9=>
cond (decide (s9.1<(zm l_0))) (Zb (idx l_0 s9.1) λxa=>
some (.inl ((w64 (s9.1+1)),(w64 (s9.2.1+xa.1)),(w64 (s9.2.2.1+xa.2.1)),(w64 (s9.2.2.2.1+xa.2.2.1)),(w64 (s9.2.2.2.2.1+xa.2.2.2.1)),(w64 (s9.2.2.2.2.2.1+xa.2.2.2.2.1)),(w64 (s9.2.2.2.2.2.2+xa.2.2.2.2.2.1))))) (some (.inr (s9.2.1,s9.2.2.1,s9.2.2.2.1,s9.2.2.2.2.1,s9.2.2.2.2.2.1,s9.2.2.2.2.2.2)))) big (0,0,0,0,0,0,0)) λta=>
some (ta.1,ta.2.1,ta.2.2.1,ta.2.2.2.1,ta.2.2.2.2.1,ta.2.2.2.2.2,())
def zbd (r_0:zan) (x_1:zd) (stop_2:Int):Option (Leg×zd×Bool):=
Zb (iter (σ:=(Int×Int×Int×Int×Int×Int×Int×Int×Int×Int×Int×Int×Int×Int×Int×Int×Int×Int×Int×Int×Int×Int×Int×Int×Int)) (τ:=(Bool×Int×Int×Int×Int×Int×Int×Int×Int×Int×Int×Int×Int×Int×Int×Int×Int×Int×Int×Int×Int×Int×Int×Int×Int)) (λsa=>
Zb (zR r_0.1 (sa.2.2.2.2.2.2.2.2.2.2.2.2.2.2.1,sa.2.2.2.2.2.2.2.2.2.2.2.2.2.2.2.1,())) λye=>
cond (sa.2.2.2.2.2.2.2.2.2.2.2.2.2.2.1==0) (Zb (zO (w64 (stop_2-ye)) 0 1000) λyf=>
cond yf (some (.inr (true,ye,sa.2.2.2.2.2.2.2.2.2.2.2.2.2.2.1,sa.2.2.2.2.2.2.2.2.2.2.2.2.2.2.2.1,sa.2.1,ye,sa.2.2.2.1,sa.2.2.2.2.1,sa.2.2.2.2.2.1,sa.2.2.2.2.2.2.1,sa.2.2.2.2.2.2.2.1,sa.2.2.2.2.2.2.2.2.1,sa.2.2.2.2.2.2.2.2.2.1,sa.2.2.2.2.2.2.2.2.2.2.1,sa.2.1,sa.2.2.2.1,sa.2.2.2.2.1,sa.2.2.2.2.2.1,sa.2.2.2.2.2.2.1,sa.2.2.2.2.2.2.2.1,sa.2.2.2.2.2.2.2.2.1,sa.2.2.2.2.2.2.2.2.2.1,sa.2.2.2.2.2.2.2.2.2.2.1,sa.2.2.2.2.2.2.2.2.2.2.2.2.2.2.1,sa.2.2.2.2.2.2.2.2.2.2.2.2.2.2.2.1))) (cond (sa.1==36000) (some (.inr (false,sa.2.2.1,sa.2.2.2.2.2.2.2.2.2.2.2.2.2.2.1,sa.2.2.2.2.2.2.2.2.2.2.2.2.2.2.2.1,sa.2.1,sa.2.2.1,sa.2.2.2.1,sa.2.2.2.2.1,sa.2.2.2.2.2.1,sa.2.2.2.2.2.2.1,sa.2.2.2.2.2.2.2.1,sa.2.2.2.2.2.2.2.2.1,sa.2.2.2.2.2.2.2.2.2.1,sa.2.2.2.2.2.2.2.2.2.2.1,sa.2.1,sa.2.2.2.1,sa.2.2.2.2.1,sa.2.2.2.2.2.1,sa.2.2.2.2.2.2.1,sa.2.2.2.2.2.2.2.1,sa.2.2.2.2.2.2.2.2.1,sa.2.2.2.2.2.2.2.2.2.1,sa.2.2.2.2.2.2.2.2.2.2.1,sa.2.2.2.2.2.2.2.2.2.2.2.2.2.2.1,sa.2.2.2.2.2.2.2.2.2.2.2.2.2.2.2.1))) (Zb (zaC r_0 (sa.2.2.2.2.2.2.2.2.2.2.2.2.2.2.1,sa.2.2.2.2.2.2.2.2.2.2.2.2.2.2.2.1,()) stop_2) λya=>
cond (!ya.2) (some (.inr (false,sa.2.2.1,sa.2.2.2.2.2.2.2.2.2.2.2.2.2.2.1,sa.2.2.2.2.2.2.2.2.2.2.2.2.2.2.2.1,sa.2.1,sa.2.2.1,sa.2.2.2.1,sa.2.2.2.2.1,sa.2.2.2.2.2.1,sa.2.2.2.2.2.2.1,sa.2.2.2.2.2.2.2.1,sa.2.2.2.2.2.2.2.2.1,sa.2.2.2.2.2.2.2.2.2.1,sa.2.2.2.2.2.2.2.2.2.2.1,sa.2.1,sa.2.2.2.1,sa.2.2.2.2.1,sa.2.2.2.2.2.1,sa.2.2.2.2.2.2.1,sa.2.2.2.2.2.2.2.1,sa.2.2.2.2.2.2.2.2.1,sa.2.2.2.2.2.2.2.2.2.1,sa.2.2.2.2.2.2.2.2.2.2.1,sa.2.2.2.2.2.2.2.2.2.2.2.2.2.2.1,sa.2.2.2.2.2.2.2.2.2.2.2.2.2.2.2.1))) (cond (decide (ya.1.1.2.1>10000000000000000)) (some (.inr (false,sa.2.2.1,sa.2.2.2.2.2.2.2.2.2.2.2.2.2.2.1,sa.2.2.2.2.2.2.2.2.2.2.2.2.2.2.2.1,sa.2.1,sa.2.2.1,sa.2.2.2.1,sa.2.2.2.2.1,sa.2.2.2.2.2.1,sa.2.2.2.2.2.2.1,sa.2.2.2.2.2.2.2.1,sa.2.2.2.2.2.2.2.2.1,sa.2.2.2.2.2.2.2.2.2.1,sa.2.2.2.2.2.2.2.2.2.2.1,sa.2.1,sa.2.2.2.1,sa.2.2.2.2.1,sa.2.2.2.2.2.1,sa.2.2.2.2.2.2.1,sa.2.2.2.2.2.2.2.1,sa.2.2.2.2.2.2.2.2.1,sa.2.2.2.2.2.2.2.2.2.1,sa.2.2.2.2.2.2.2.2.2.2.1,sa.2.2.2.2.2.2.2.2.2.2.2.2.2.2.1,sa.2.2.2.2.2.2.2.2.2.2.2.2.2.2.2.1))) (Zb (zcK ([(sa.2.2.2.1,sa.2.2.2.2.1,sa.2.2.2.2.2.1,sa.2.2.2.2.2.2.1,sa.2.2.2.2.2.2.2.1,sa.2.2.2.2.2.2.2.2.1,()),ya.1.2.1])) λyc=>
some (.inl ((w64 (sa.1+1)),(w64 (sa.2.1+100)),sa.2.2.1,yc.1,yc.2.1,yc.2.2.1,yc.2.2.2.1,yc.2.2.2.2.1,yc.2.2.2.2.2.1,(max sa.2.2.2.2.2.2.2.2.2.1 ya.1.2.2.1),(max sa.2.2.2.2.2.2.2.2.2.2.1 ya.1.2.2.2.1),sa.2.2.2.2.2.2.2.2.2.2.2.1,sa.2.2.2.2.2.2.2.2.2.2.2.2.1,sa.2.2.2.2.2.2.2.2.2.2.2.2.2.1,ya.1.1.1,ya.1.1.2.1,sa.2.2.2.2.2.2.2.2.2.2.2.2.2.2.2.2.1,sa.2.2.2.2.2.2.2.2.2.2.2.2.2.2.2.2.2.1,sa.2.2.2.2.2.2.2.2.2.2.2.2.2.2.2.2.2.2.1,sa.2.2.2.2.2.2.2.2.2.2.2.2.2.2.2.2.2.2.2.1,sa.2.2.2.2.2.2.2.2.2.2.2.2.2.2.2.2.2.2.2.2.1,sa.2.2.2.2.2.2.2.2.2.2.2.2.2.2.2.2.2.2.2.2.2.1,sa.2.2.2.2.2.2.2.2.2.2.2.2.2.2.2.2.2.2.2.2.2.2.1,sa.2.2.2.2.2.2.2.2.2.2.2.2.2.2.2.2.2.2.2.2.2.2.2.1,sa.2.2.2.2.2.2.2.2.2.2.2.2.2.2.2.2.2.2.2.2.2.2.2.2))))))) (cond (sa.1==36000) (some (.inr (false,sa.2.2.1,sa.2.2.2.2.2.2.2.2.2.2.2.2.2.2.1,sa.2.2.2.2.2.2.2.2.2.2.2.2.2.2.2.1,sa.2.1,sa.2.2.1,sa.2.2.2.1,sa.2.2.2.2.1,sa.2.2.2.2.2.1,sa.2.2.2.2.2.2.1,sa.2.2.2.2.2.2.2.1,sa.2.2.2.2.2.2.2.2.1,sa.2.2.2.2.2.2.2.2.2.1,sa.2.2.2.2.2.2.2.2.2.2.1,sa.2.1,sa.2.2.2.1,sa.2.2.2.2.1,sa.2.2.2.2.2.1,sa.2.2.2.2.2.2.1,sa.2.2.2.2.2.2.2.1,sa.2.2.2.2.2.2.2.2.1,sa.2.2.2.2.2.2.2.2.2.1,sa.2.2.2.2.2.2.2.2.2.2.1,sa.2.2.2.2.2.2.2.2.2.2.2.2.2.2.1,sa.2.2.2.2.2.2.2.2.2.2.2.2.2.2.2.1))) (Zb (zaC r_0 (sa.2.2.2.2.2.2.2.2.2.2.2.2.2.2.1,sa.2.2.2.2.2.2.2.2.2.2.2.2.2.2.2.1,()) stop_2) λyb=>
cond (!yb.2) (some (.inr (false,sa.2.2.1,sa.2.2.2.2.2.2.2.2.2.2.2.2.2.2.1,sa.2.2.2.2.2.2.2.2.2.2.2.2.2.2.2.1,sa.2.1,sa.2.2.1,sa.2.2.2.1,sa.2.2.2.2.1,sa.2.2.2.2.2.1,sa.2.2.2.2.2.2.1,sa.2.2.2.2.2.2.2.1,sa.2.2.2.2.2.2.2.2.1,sa.2.2.2.2.2.2.2.2.2.1,sa.2.2.2.2.2.2.2.2.2.2.1,sa.2.1,sa.2.2.2.1,sa.2.2.2.2.1,sa.2.2.2.2.2.1,sa.2.2.2.2.2.2.1,sa.2.2.2.2.2.2.2.1,sa.2.2.2.2.2.2.2.2.1,sa.2.2.2.2.2.2.2.2.2.1,sa.2.2.2.2.2.2.2.2.2.2.1,sa.2.2.2.2.2.2.2.2.2.2.2.2.2.2.1,sa.2.2.2.2.2.2.2.2.2.2.2.2.2.2.2.1))) (cond (decide (yb.1.1.2.1>10000000000000000)) (some (.inr (false,sa.2.2.1,sa.2.2.2.2.2.2.2.2.2.2.2.2.2.2.1,sa.2.2.2.2.2.2.2.2.2.2.2.2.2.2.2.1,sa.2.1,sa.2.2.1,sa.2.2.2.1,sa.2.2.2.2.1,sa.2.2.2.2.2.1,sa.2.2.2.2.2.2.1,sa.2.2.2.2.2.2.2.1,sa.2.2.2.2.2.2.2.2.1,sa.2.2.2.2.2.2.2.2.2.1,sa.2.2.2.2.2.2.2.2.2.2.1,sa.2.1,sa.2.2.2.1,sa.2.2.2.2.1,sa.2.2.2.2.2.1,sa.2.2.2.2.2.2.1,sa.2.2.2.2.2.2.2.1,sa.2.2.2.2.2.2.2.2.1,sa.2.2.2.2.2.2.2.2.2.1,sa.2.2.2.2.2.2.2.2.2.2.1,sa.2.2.2.2.2.2.2.2.2.2.2.2.2.2.1,sa.2.2.2.2.2.2.2.2.2.2.2.2.2.2.2.1))) (Zb (zcK ([(sa.2.2.2.1,sa.2.2.2.2.1,sa.2.2.2.2.2.1,sa.2.2.2.2.2.2.1,sa.2.2.2.2.2.2.2.1,sa.2.2.2.2.2.2.2.2.1,()),yb.1.2.1])) λyd=>
some (.inl ((w64 (sa.1+1)),(w64 (sa.2.1+100)),sa.2.2.1,yd.1,yd.2.1,yd.2.2.1,yd.2.2.2.1,yd.2.2.2.2.1,yd.2.2.2.2.2.1,(max sa.2.2.2.2.2.2.2.2.2.1 yb.1.2.2.1),(max sa.2.2.2.2.2.2.2.2.2.2.1 yb.1.2.2.2.1),sa.2.2.2.2.2.2.2.2.2.2.2.1,sa.2.2.2.2.2.2.2.2.2.2.2.2.1,sa.2.2.2.2.2.2.2.2.2.2.2.2.2.1,yb.1.1.1,yb.1.1.2.1,sa.2.2.2.2.2.2.2.2.2.2.2.2.2.2.2.2.1,sa.2.2.2.2.2.2.2.2.2.2.2.2.2.2.2.2.2.1,sa.2.2.2.2.2.2.2.2.2.2.2.2.2.2.2.2.2.2.1,sa.2.2.2.2.2.2.2.2.2.2.2.2.2.2.2.2.2.2.2.1,sa.2.2.2.2.2.2.2.2.2.2.2.2.2.2.2.2.2.2.2.2.1,sa.2.2.2.2.2.2.2.2.2.2.2.2.2.2.2.2.2.2.2.2.2.1,sa.2.2.2.2.2.2.2.2.2.2.2.2.2.2.2.2.2.2.2.2.2.2.1,sa.2.2.2.2.2.2.2.2.2.2.2.2.2.2.2.2.2.2.2.2.2.2.2.1,sa.2.2.2.2.2.2.2.2.2.2.2.2.2.2.2.2.2.2.2.2.2.2.2.2))))))) big (0,0,0,0,0,0,0,0,0,0,0,0,0,0,x_1.1,x_1.2.1,0,0,0,0,0,0,0,0,0)) λta=>
some ((ta.2.2.2.2.1,ta.2.2.2.2.2.1,(ta.2.2.2.2.2.2.1,ta.2.2.2.2.2.2.2.1,ta.2.2.2.2.2.2.2.2.1,ta.2.2.2.2.2.2.2.2.2.1,ta.2.2.2.2.2.2.2.2.2.2.1,ta.2.2.2.2.2.2.2.2.2.2.2.1,()),ta.2.2.2.2.2.2.2.2.2.2.2.2.1,ta.2.2.2.2.2.2.2.2.2.2.2.2.2.1,()),(ta.2.2.1,ta.2.2.2.1,()),ta.1)
def zbY (p_0:Plan) (way_1:(List zM)) (t_2:Train) (state_3:Int) (stops_4:(List Int)):Option ((List Leg)×Int):=
Zb (zdy p_0 way_1 t_2 state_3 stops_4) λy1=>
cond (!y1.2) (some ([],2)) (Zb (idx stops_4 0) λx5=>
Zb (slO stops_4 1 (zm stops_4)) λx7=>
Zb (iter (σ:=((List Leg)×Int×Int×Int)) (τ:=((List Leg)×Int×Int)⊕((List Leg)×Int×Int×Int)) (λsa=>
cond (decide (sa.2.1<(zm x7))) (Zb (idx x7 sa.2.1) λxa=>
Zb y1.1 λpa=>
Zb (zbd pa (sa.2.2.1,sa.2.2.2,()) xa) λya=>
cond (!ya.2.2) (some (.inr (.inr ([],4,sa.2.2.1,sa.2.2.2)))) (cond (decide (sa.2.2.2>10000000000000000)) (some (.inr (.inr ([],4,sa.2.2.1,sa.2.2.2)))) (Zb (zdp 80 sa.1 ([ya.1])) λxb=>
some (.inl (xb,(w64 (sa.2.1+1)),ya.2.1.1,ya.2.1.2.1))))) (some (.inr (.inl (sa.1,sa.2.2.1,sa.2.2.2))))) big ([],0,0,(w64 ((w64 (10*t_2.1))*x5)))) λta=>
alt (λbb=>some (bb.1,0)) (λba=>some (ba.1,ba.2.1)) ta)
def zaD (l_0:(List Leg)) (field_1:((Leg)->Option (Int))):Option (List Int):=
Zb (iter (σ:=((List Int)×Int)) (τ:=(List Int)) (λs7=>
cond (decide (s7.2<(zm l_0))) (Zb (idx l_0 s7.2) λxa=>
Zb (field_1 xa) λya=>
Zb (zdp 8 s7.1 ([ya])) λxb=>
some (.inl (xb,(w64 (s7.2+1))))) (some (.inr s7.1))) big ([],0)) λta=>
some ta
def zew (x_0:Leg):Option (Int):=
some x_0.1
def zbK (p_0:Plan) (way_1:(List zM)) (t_2:Train) (state_3:Int) (stops_4:(List Int)):Option ((List Int)×Int):=
Zb (zbY p_0 way_1 t_2 state_3 stops_4) λy1=>
cond (y1.2 !=0) (some ([],y1.2)) (Zb (zaD y1.1 (λx=>zew x)) λy4=>
some (y4,0))
def za5 (p_0:Plan) (l_1:Line) (c_2:Course):Option ((List Int)×(List Int)×Bool):=
Zb (zbZ p_0 c_2.1) λy1=>
Zb (cond (y1.2 !=0) (some true) (Zb (zw (zm c_2.2.1) 2 60) λyb=>
cond (!yb) (some true) (cond ((zm c_2.2.2.1)!=(zm c_2.2.1)) (some true) (Zb (idx c_2.2.2.1 0) λxd=>
cond (xd !=0) (some true) (Zb (idx c_2.2.2.1 (w64 ((zm c_2.2.1)-1))) λxe=>
some (xe !=0)))))) λc9=>
cond c9 (some ([],[],false)) (Zb (iter (σ:=Int) (τ:=Unit⊕((List Int)×(List Int)×Bool)) (λsb=>
cond (decide (sb<(zm c_2.2.1))) (Zb (idx c_2.2.1 sb) λxa=>
Zb (zw xa 1 y1.1) λyc=>
cond (!yc) (some (.inr (.inr ([],[],false)))) (cond (decide (sb>0)) (Zb (idx c_2.2.1 (w64 (sb-1))) λxf=>
cond (decide (xa<=xf)) (some (.inr (.inr ([],[],false)))) (Zb (idx c_2.2.2.1 sb) λxg=>
Zb (zw xg 0 600) λyd=>
cond (!yd) (some (.inr (.inr ([],[],false)))) (some (.inl (w64 (sb+1)))))) (Zb (idx c_2.2.2.1 sb) λxh=>
Zb (zw xh 0 600) λye=>
cond (!ye) (some (.inr (.inr ([],[],false)))) (some (.inl (w64 (sb+1))))))) (some (.inr (.inl ())))) big 0) λtb=>
alt (λbb=>Zb (zbK p_0 c_2.1 l_1.2.2.1 l_1.2.2.2.1 c_2.2.1) λya=>
Zb (cond (ya.2 !=0) (some true) (some ((zm ya.1)!=(w64 ((zm c_2.2.1)-1))))) λca=>
cond ca (some ([],[],false)) (Zb (mkO 8 (zm c_2.2.1) (0:Int)) λxi=>
Zb (mkO 8 (zm c_2.2.1) (0:Int)) λxj=>
Zb (iter (σ:=(Int×(List Int)×(List Int))) (τ:=((List Int)×(List Int))) (λsa=>
cond (decide (sa.1<(zm ya.1))) (Zb (idx ya.1 sa.1) λxk=>
Zb (zc2 .i64 (w64 (xk+999)) 1000) λxb=>
Zb (idx sa.2.2 (w64 (sa.1+1))) λxp=>
Zb (idx sa.2.1 sa.1) λxl=>
Zb (idx ((sa.2.2).set (Int.toNat (w64 (sa.1+1))) (max 1 xb)) (w64 (sa.1+1))) λxm=>
Zb (idx c_2.2.2.1 (w64 (sa.1+1))) λxn=>
Zb (idx sa.2.1 (w64 (sa.1+1))) λxq=>
some (.inl ((w64 (sa.1+1)),(sa.2.1).set (Int.toNat (w64 (sa.1+1))) (w64 ((w64 (xl+xm))+xn)),(sa.2.2).set (Int.toNat (w64 (sa.1+1))) (max 1 xb)))) (some (.inr (sa.2.1,sa.2.2)))) big (0,xj,xi)) λta=>
Zb (idx ta.1 (w64 ((zm c_2.2.1)-1))) λxo=>
some (ta.2,ta.1,(decide (xo<=50000))))) (λba=>some (ba.1,ba.2.1,ba.2.2)) tb)
def zby (p_0:Plan) (l_1:Line):Option ((Option zo)×Bool):=
Zb (Zb (zdj p_0) λy5=>
cond (y5 !=0) (some true) (Zb (zw l_1.2.2.2.2.1 0 3600) λy7=>
some (!y7))) λc4=>
cond c4 (some ((none:Option zo),false)) (Zb (zaX l_1) λyb=>
Zb (iter (σ:=(Int×(List Int)×(List Int)×(List Int)×(List Int))) (τ:=((List Int)×(List Int)×(List Int)×(List Int))⊕((Option zo)×Bool×(List Int)×(List Int)×(List Int)×(List Int))) (λsa=>
cond (decide (sa.1<2)) (Zb (idx yb sa.1) λxa=>
Zb (za5 p_0 l_1 xa) λya=>
Zb (idx [(),()] sa.1) λxb=>
Zb (idx [(),()] sa.1) λxd=>
cond (!ya.2.2) (some (.inr (.inr ((none:Option zo),false,cond (sa.1==0) ya.1 sa.2.1,cond (sa.1==1) ya.1 sa.2.2.1,cond (sa.1==0) ya.2.1 sa.2.2.2.1,cond (sa.1==1) ya.2.1 sa.2.2.2.2)))) (some (.inl ((w64 (sa.1+1)),cond (sa.1==0) ya.1 sa.2.1,cond (sa.1==1) ya.1 sa.2.2.1,cond (sa.1==0) ya.2.1 sa.2.2.2.1,cond (sa.1==1) ya.2.1 sa.2.2.2.2)))) (some (.inr (.inl (sa.2.1,sa.2.2.1,sa.2.2.2.1,sa.2.2.2.2))))) big (0,[],[],[],[])) λta=>
alt (λba=>some ((some (((l_1.1.1,l_1.1.2.1,l_1.1.2.2.1,()),(l_1.2.1.1,l_1.2.1.2.1,l_1.2.1.2.2.1,()),(l_1.2.2.1.1,l_1.2.2.1.2.1,l_1.2.2.1.2.2.1,l_1.2.2.1.2.2.2.1,l_1.2.2.1.2.2.2.2.1,l_1.2.2.1.2.2.2.2.2.1,l_1.2.2.1.2.2.2.2.2.2.1,l_1.2.2.1.2.2.2.2.2.2.2.1,l_1.2.2.1.2.2.2.2.2.2.2.2.1,l_1.2.2.1.2.2.2.2.2.2.2.2.2.1,()),l_1.2.2.2.1,l_1.2.2.2.2.1,()),[ba.1,ba.2.1],[ba.2.2.1,ba.2.2.2],())),true)) (λbb=>some (bb.1,bb.2.1)) ta)
def zbz (home_0:Bool):Option (Int):=
cond home_0 (some 1) (some 0)
def zaK (p_0:Plan) (l_1:Line) (home_2:Bool):Option ((List Int)×Int):=
Zb (zby p_0 l_1) λy1=>
cond (!y1.2) (some ([],2)) (Zb (zbz home_2) λy6=>
Zb y1.1 λp7=>
Zb (idx p7.2.2.1 y6) λx8=>
some (x8,0))
def zU (r_0:zo) (side_1:Int):Option (Int):=
Zb (idx r_0.2.2.1 side_1) λx4=>
Zb (idx r_0.2.2.1 side_1) λx5=>
Zb (idx x4 (w64 ((zm x5)-1))) λx6=>
some x6
def zaL (r_0:zo):Option (Int):=
Zb (zU r_0 0) λy3=>
Zb (zU r_0 1) λy4=>
some (w64 ((w64 (y3+y4))+(w64 (2*r_0.1.2.2.2.2.1))))
def zcy (p_0:Plan) (l_1:Line):Option (Int×Int):=
Zb (zby p_0 l_1) λy1=>
cond (!y1.2) (some (0,2)) (Zb y1.1 λp3=>
Zb (zaL p3) λy4=>
some (y4,0))
def zbl (r_0:zo) (headway_1:Int):Option (Int):=
Zb (zaL r_0) λy1=>
Zb (zc2 .i64 (w64 ((w64 (y1+headway_1))-1)) headway_1) λx2=>
some x2
def zbA (p_0:Plan) (l_1:Line) (headway_2:Int):Option (Int×Int):=
Zb (zby p_0 l_1) λy1=>
Zb (cond (!y1.2) (some true) (Zb (zw headway_2 30 7200) λy6=>
some (!y6))) λc4=>
cond c4 (some (0,2)) (Zb y1.1 λp8=>
Zb (zbl p8 headway_2) λy9=>
some (y9,0))
def zcq (length_0:Int):Option (Plan×Line):=
Zb (zc2 .i64 length_0 2) λx5=>
Zb (zc2 .i64 length_0 2) λx7=>
some ((([(((0,0,()),1,[((0,false,()):zl)],0,()):zcb),((((length_0,0,()):Spot),1,[((0,true,()):zl)],0,()):zcb)],[((0,1,[],8000,0,()):Rail)],()):Plan),(((([((0,false,()):zM)],[1000,x5,length_0],[0,20,0],()):Course),(([((0,true,()):zM)],[1000,x7,length_0],[0,10,0],()):Course),((1000,1000,8000,2000,2000,1000000,0,0,0,[1000],()):Train),0,30,()):Line))
def zX :Option (Bool):=
Zb (zcq 21000) λy1=>
Zb (zbK y1.1 y1.2.1.1 y1.2.2.2.1 0 y1.2.1.2.1) λy4=>
Zb (zaK y1.1 y1.2 false) λy6=>
Zb (zaK y1.1 y1.2 true) λy7=>
Zb (zcy y1.1 y1.2) λy8=>
Zb (cond (y4.2 !=0) (some true) (cond (y6.2 !=0) (some true) (cond (y7.2 !=0) (some true) (cond (y8.2 !=0) (some true) (cond ((zm y4.1)!=2) (some true) (cond ((zm y6.1)!=3) (some true) (some ((zm y7.1)!=3)))))))) λca=>
cond ca (some false) (Zb (idx y4.1 0) λxb=>
Zb (zc2 .i64 (w64 (xb+999)) 1000) λxa=>
Zb (idx y4.1 1) λxd=>
Zb (zc2 .i64 (w64 (xd+999)) 1000) λxe=>
Zb (zbA y1.1 y1.2 y8.1) λya=>
Zb (zbA y1.1 y1.2 (w64 (y8.1-1))) λyb=>
Zb (Zb (idx y6.1 0) λxf=>
cond (xf==0) (Zb (idx y6.1 1) λxg=>
cond (xg==(w64 (xa+20))) (Zb (idx y6.1 2) λxh=>
cond (xh==(w64 ((w64 (xa+xe))+20))) (Zb (idx y6.1 2) λxi=>
Zb (idx y7.1 2) λxj=>
cond (y8.1==(w64 ((w64 (xi+xj))+60))) (cond (ya.2==0) (cond (yb.2==0) (cond (ya.1==1) (some (yb.1==2)) (some false)) (some false)) (some false)) (some false)) (some false)) (some false)) (some false)) λcc=>
some cc)
def zbu (n_0:Int) (low_1:Int) (high_2:Int):Option (Bool):=
Zb (cond (decide (n_0>=low_1)) (some (decide (n_0<=high_2))) (some false)) λc4=>
some c4
def zcr (l_0:Line) (home_1:Bool):Option (Course):=
cond home_1 (some l_0.2.1) (some l_0.1)
def zeH (p_0:Plan) (m_1:zM):Option (Bool):=
Zb (z4 m_1.1 0 (w64 ((zm p_0.2.1)-1))) λy1=>
some y1
def zfq (m_0:zM):Option (zl):=
some ((m_0.1,(!m_0.2.1),()):zl)
def zdk (n_0:zcb) (e_1:zl):Option (Int):=
Zb (iter (σ:=Int) (τ:=Unit⊕(Int)) (λs5=>
cond (decide (s5<(zm n_0.2.2.1))) (Zb (idx n_0.2.2.1 s5) λx9=>
cond (x9==e_1) (some (.inr (.inr s5))) (some (.inl (w64 (s5+1))))) (some (.inr (.inl ())))) big 0) λta=>
alt (λbb=>some (-1)) (λba=>some ba) ta
def zha (m_0:zM):Option (zl):=
some ((m_0.1,m_0.2.1,()):zl)
def zeI (n_0:zcb) (a_1:Int) (b_2:Int):Option (Bool):=
cond (n_0.2.1==2) (some (a_1 !=b_2)) (cond (n_0.2.1==3) (Zb (cond (a_1 !=b_2) (Zb (zl5 (w64 (a_1+b_2)) 2) λx7=>
some (x7==0)) (some false)) λc5=>
some c5) (cond (n_0.2.1==4) (Zb (cond (a_1==0) (cond (decide (b_2>0)) (some true) (cond (decide (a_1>0)) (some (b_2==0)) (some false))) (cond (decide (a_1>0)) (some (b_2==0)) (some false))) λca=>
some ca) (cond (n_0.2.1==5) (Zb (cond (a_1==0) (cond (b_2==n_0.2.2.2.1) (some true) (cond (decide (a_1>0)) (some (b_2==0)) (some false))) (cond (decide (a_1>0)) (some (b_2==0)) (some false))) λcc=>
some cc) (cond (n_0.2.1==6) (Zb (cond (a_1==0) (cond (b_2==n_0.2.2.2.1) (some true) (cond (a_1==n_0.2.2.2.1) (some (b_2==0)) (some false))) (cond (a_1==n_0.2.2.2.1) (some (b_2==0)) (some false))) λcd=>
some cd) (some false)))))
def zcz (p_0:Plan) (m_1:zM) (n_2:zM):Option (Bool):=
Zb (zfq m_1) λy3=>
Zb (zfb p_0 y3) λy4=>
Zb (idx p_0.1 y4) λx5=>
Zb (zfq m_1) λyc=>
Zb (zdk x5 yc) λya=>
Zb (zha n_2) λyd=>
Zb (zdk x5 yd) λyb=>
Zb (cond (decide (ya>=0)) (cond (decide (yb>=0)) (Zb (zeI x5 ya yb) λye=>
some ye) (some false)) (some false)) λca=>
some ca
def zep (p_0:Plan) (l_1:(List zM)):Option (Bool):=
Zb (iter (σ:=Int) (τ:=Unit⊕(Bool)) (λsa=>
cond (decide (sa<(zm l_1))) (Zb (idx l_1 sa) λxa=>
Zb (zeH p_0 xa) λya=>
cond (!ya) (some (.inr (.inr false))) (cond (decide (sa>0)) (Zb (idx l_1 (w64 (sa-1))) λxb=>
Zb (idx l_1 sa) λxd=>
Zb (zcz p_0 xb xd) λyb=>
cond (!yb) (some (.inr (.inr false))) (some (.inl (w64 (sa+1))))) (some (.inl (w64 (sa+1)))))) (some (.inr (.inl ())))) big 0) λta=>
alt (λbb=>Zb (z4 (zm l_1) 1 2000) λyc=>
some yc) (λba=>some ba) ta
def zb1 (p_0:Plan) (l_1:(List zM)):Option (Int):=
Zb (iter (σ:=(Int×Int)) (τ:=Int) (λs6=>
cond (decide (s6.2<(zm l_1))) (Zb (idx l_1 s6.2) λxa=>
Zb (zaw p_0 xa.1) λya=>
some (.inl ((w64 (s6.1+ya)),(w64 (s6.2+1))))) (some (.inr s6.1))) big (0,0)) λta=>
some ta
def zba (x_0:Int) (low_1:Int) (high_2:Int):Option (Bool):=
Zb (cond (decide (x_0>=low_1)) (some (decide (x_0<=high_2))) (some false)) λc4=>
some c4
def zd5 (t_0:Train):Option (Bool):=
Zb (Zb (zba t_0.1 1000 80000) λya=>
cond (!ya) (some true) (Zb (zba t_0.2.1 1 60000) λyb=>
cond (!yb) (some true) (Zb (zba t_0.2.2.1 1 25000) λyc=>
cond (!yc) (some true) (Zb (zba t_0.2.2.2.1 1 200000) λyd=>
cond (!yd) (some true) (Zb (zba t_0.2.2.2.2.1 1 200000) λye=>
cond (!ye) (some true) (Zb (zba t_0.2.2.2.2.2.1 1 2000000) λyf=>
cond (!yf) (some true) (Zb (zba t_0.2.2.2.2.2.2.1 0 100000) λyg=>
cond (!yg) (some true) (Zb (zba t_0.2.2.2.2.2.2.2.1 0 10000) λyh=>
cond (!yh) (some true) (Zb (zba t_0.2.2.2.2.2.2.2.2.1 0 100) λyi=>
cond (!yi) (some true) (Zb (zba (zm t_0.2.2.2.2.2.2.2.2.2.1) 1 8) λyj=>
some (!yj))))))))))) λca=>
cond ca (some false) (Zb (iter (σ:=Int) (τ:=Unit⊕(Bool)) (λsa=>
cond (decide (sa<(zm t_0.2.2.2.2.2.2.2.2.2.1))) (Zb (idx t_0.2.2.2.2.2.2.2.2.2.1 sa) λxa=>
Zb (zba xa 1 1000) λyk=>
cond (!yk) (some (.inr (.inr false))) (some (.inl (w64 (sa+1))))) (some (.inr (.inl ())))) big 0) λta=>
alt (λbb=>some true) (λba=>some ba) ta)
def zd6 (p_0:Plan) (way_1:(List zM)) (t_2:Train) (state_3:Int) (stops_4:(List Int)):Option (Bool):=
Zb (Zb (zcO p_0) λya=>
cond (!ya) (some true) (Zb (zep p_0 way_1) λyb=>
cond (!yb) (some true) (Zb (zd5 t_2) λyc=>
cond (!yc) (some true) (Zb (zba state_3 0 (w64 ((zm t_2.2.2.2.2.2.2.2.2.2.1)-1))) λyd=>
cond (!yd) (some true) (Zb (zba (zm stops_4) 2 100) λye=>
cond (!ye) (some true) (Zb (idx stops_4 0) λxa=>
some (decide (xa<t_2.2.1)))))))) λca=>
cond ca (some false) (Zb (iter (σ:=Int) (τ:=Unit⊕(Bool)) (λsa=>
cond (decide (sa<(zm stops_4))) (Zb (idx stops_4 sa) λxb=>
Zb (idx stops_4 (w64 (sa-1))) λxd=>
cond (decide (xb<=xd)) (some (.inr (.inr false))) (some (.inl (w64 (sa+1))))) (some (.inr (.inl ())))) big 1) λta=>
alt (λbb=>Zb (idx stops_4 (w64 ((zm stops_4)-1))) λxe=>
Zb (zb1 p_0 way_1) λyf=>
some (decide (xe<=yf))) (λba=>some ba) ta)
def zL (t_0:Train) (x_1:zd):Option (Int):=
Zb (zc2 .i64 x_1.2.1 (w64 (10*t_0.1))) λx1=>
some x1
def zaT (r_0:zY) (place_1:Int):Option (Int):=
Zb (iter (σ:=(Int×Int)) (τ:=Unit⊕(Int)) (λsa=>
cond (decide (sa.2<(zm r_0.2.1))) (Zb (idx r_0.2.1 sa.2) λxa=>
Zb (zaw r_0.1 xa.1) λya=>
cond (decide (place_1<(w64 (sa.1+ya)))) (Zb (idx r_0.2.1 sa.2) λxb=>
cond xb.2.1 (Zb (idx r_0.2.1 sa.2) λxd=>
Zb (idx r_0.1.2.1 xd.1) λxe=>
some (.inr (.inr (w64 (0-xe.2.2.2.2.1))))) (Zb (idx r_0.2.1 sa.2) λxf=>
Zb (idx r_0.1.2.1 xf.1) λxg=>
some (.inr (.inr xg.2.2.2.2.1)))) (cond (sa.2==(w64 ((zm r_0.2.1)-1))) (Zb (idx r_0.2.1 sa.2) λxh=>
cond xh.2.1 (Zb (idx r_0.2.1 sa.2) λxi=>
Zb (idx r_0.1.2.1 xi.1) λxj=>
some (.inr (.inr (w64 (0-xj.2.2.2.2.1))))) (Zb (idx r_0.2.1 sa.2) λxk=>
Zb (idx r_0.1.2.1 xk.1) λxl=>
some (.inr (.inr xl.2.2.2.2.1)))) (some (.inl ((w64 (sa.1+ya)),(w64 (sa.2+1))))))) (some (.inr (.inl ())))) big (0,0)) λta=>
alt (λbb=>some 0) (λba=>some ba) ta
def zdz (t_0:Train) (speed_1:Int) (demand_2:Int) (slope_3:Int) (state_4:Int):Option (Int×Int×Int×Int):=
Zb (idx t_0.2.2.2.2.2.2.2.2.2.1 state_4) λx3=>
Zb (zc2 .i64 (w64 ((w64 (x3*t_0.1))*981)) 100000) λx4=>
cond (decide (demand_2>0)) (Zb (zc2 .i64 (w64 (t_0.2.2.2.1*demand_2)) 4) λx6=>
cond (decide (speed_1>0)) (Zb (zc2 .i64 (w64 (1000*t_0.2.2.2.2.2.1)) speed_1) λx8=>
cond (decide (demand_2<0)) (Zb (zc2 .i64 (w64 (t_0.2.2.2.2.1*(w64 (0-demand_2)))) 4) λxa=>
Zb (zc2 .i64 (w64 (t_0.2.2.2.2.2.2.2.1*speed_1)) 1000) λxb=>
Zb (zc2 .i64 (w64 ((w64 (t_0.1*slope_3))*981)) 100000) λxd=>
some ((min (min x6 x4) x8),(min xa x4),(w64 (t_0.2.2.2.2.2.2.1+xb)),xd)) (Zb (zc2 .i64 (w64 (t_0.2.2.2.2.2.2.2.1*speed_1)) 1000) λxe=>
Zb (zc2 .i64 (w64 ((w64 (t_0.1*slope_3))*981)) 100000) λxf=>
some ((min (min x6 x4) x8),0,(w64 (t_0.2.2.2.2.2.2.1+xe)),xf))) (cond (decide (demand_2<0)) (Zb (zc2 .i64 (w64 (t_0.2.2.2.2.1*(w64 (0-demand_2)))) 4) λxg=>
Zb (zc2 .i64 (w64 (t_0.2.2.2.2.2.2.2.1*speed_1)) 1000) λxh=>
Zb (zc2 .i64 (w64 ((w64 (t_0.1*slope_3))*981)) 100000) λxi=>
some ((min x6 x4),(min xg x4),(w64 (t_0.2.2.2.2.2.2.1+xh)),xi)) (Zb (zc2 .i64 (w64 (t_0.2.2.2.2.2.2.2.1*speed_1)) 1000) λxj=>
Zb (zc2 .i64 (w64 ((w64 (t_0.1*slope_3))*981)) 100000) λxk=>
some ((min x6 x4),0,(w64 (t_0.2.2.2.2.2.2.1+xj)),xk)))) (cond (decide (demand_2<0)) (Zb (zc2 .i64 (w64 (t_0.2.2.2.2.1*(w64 (0-demand_2)))) 4) λxl=>
Zb (zc2 .i64 (w64 (t_0.2.2.2.2.2.2.2.1*speed_1)) 1000) λxm=>
Zb (zc2 .i64 (w64 ((w64 (t_0.1*slope_3))*981)) 100000) λxn=>
some (0,(min xl x4),(w64 (t_0.2.2.2.2.2.2.1+xm)),xn)) (Zb (zc2 .i64 (w64 (t_0.2.2.2.2.2.2.2.1*speed_1)) 1000) λxo=>
Zb (zc2 .i64 (w64 ((w64 (t_0.1*slope_3))*981)) 100000) λxp=>
some (0,0,(w64 (t_0.2.2.2.2.2.2.1+xo)),xp)))
def zay (t_0:Train) (x_1:zd) (demand_2:Int) (slope_3:Int) (state_4:Int):Option (zd×zV×Bool):=
Zb (zc2 .i64 x_1.1 t_0.1) λx5=>
Zb (zdz t_0 x5 demand_2 slope_3 state_4) λy6=>
Zb (cond (decide ((w64 (x_1.1+(w64 (100*(w64 ((w64 ((w64 (y6.1-y6.2.1))-y6.2.2.1))-y6.2.2.2))))))<0)) (some true) (cond (x_1.1==0) (some (decide ((w64 ((w64 ((w64 (y6.1-y6.2.1))-y6.2.2.1))-y6.2.2.2))<=0))) (some false))) λca=>
cond ca (some (((0,(w64 (x_1.2.1+0)),()):zd),(0,0,0,0,0,(w64 (x_1.1*x_1.1)),()),(decide (0<=(w64 (25000*t_0.1)))))) (some ((((w64 (x_1.1+(w64 (100*(w64 ((w64 ((w64 (y6.1-y6.2.1))-y6.2.2.1))-y6.2.2.2)))))),(w64 (x_1.2.1+(w64 (x_1.1+(w64 (100*(w64 ((w64 ((w64 (y6.1-y6.2.1))-y6.2.2.1))-y6.2.2.2)))))))),()):zd),(((w64 ((w64 (200*y6.1))*(w64 (x_1.1+(w64 (100*(w64 ((w64 ((w64 (y6.1-y6.2.1))-y6.2.2.1))-y6.2.2.2)))))))),(w64 ((w64 (200*y6.2.1))*(w64 (x_1.1+(w64 (100*(w64 ((w64 ((w64 (y6.1-y6.2.1))-y6.2.2.1))-y6.2.2.2)))))))),(w64 ((w64 (200*y6.2.2.1))*(w64 (x_1.1+(w64 (100*(w64 ((w64 ((w64 (y6.1-y6.2.1))-y6.2.2.1))-y6.2.2.2)))))))),(w64 ((w64 (200*y6.2.2.2))*(w64 (x_1.1+(w64 (100*(w64 ((w64 ((w64 (y6.1-y6.2.1))-y6.2.2.1))-y6.2.2.2)))))))),(w64 ((w64 (10000*(w64 ((w64 ((w64 (y6.1-y6.2.1))-y6.2.2.1))-y6.2.2.2))))*(w64 ((w64 ((w64 (y6.1-y6.2.1))-y6.2.2.1))-y6.2.2.2)))),0,()):zV),(decide ((w64 (x_1.1+(w64 (100*(w64 ((w64 ((w64 (y6.1-y6.2.1))-y6.2.2.1))-y6.2.2.2))))))<=(w64 (25000*t_0.1))))))
def zdA (p_0:Plan) (l_1:(List zM)) (front_2:Int) (length_3:Int):Option (List Cover):=
Zb (iter (σ:=((List Cover)×Int×Int)) (τ:=(List Cover)) (λsa=>
cond (decide (sa.2.2<(zm l_1))) (Zb (idx l_1 sa.2.2) λxa=>
Zb (zaw p_0 xa.1) λya=>
cond (decide ((w64 ((max (w64 (front_2-length_3)) sa.2.1)-sa.2.1))>=(w64 ((min front_2 (w64 (sa.2.1+ya)))-sa.2.1)))) (some (.inl (sa.1,(w64 (sa.2.1+ya)),(w64 (sa.2.2+1))))) (Zb (idx l_1 sa.2.2) λxb=>
cond xb.2.1 (Zb (idx l_1 sa.2.2) λxd=>
Zb (zdp 24 sa.1 ([((xd.1,(w64 (ya-(w64 ((min front_2 (w64 (sa.2.1+ya)))-sa.2.1)))),(w64 (ya-(w64 ((max (w64 (front_2-length_3)) sa.2.1)-sa.2.1)))),()):Cover)])) λxe=>
some (.inl (xe,(w64 (sa.2.1+ya)),(w64 (sa.2.2+1))))) (Zb (idx l_1 sa.2.2) λxf=>
Zb (zdp 24 sa.1 ([((xf.1,(w64 ((max (w64 (front_2-length_3)) sa.2.1)-sa.2.1)),(w64 ((min front_2 (w64 (sa.2.1+ya)))-sa.2.1)),()):Cover)])) λxg=>
some (.inl (xg,(w64 (sa.2.1+ya)),(w64 (sa.2.2+1))))))) (some (.inr sa.1))) big ([],0,0)) λta=>
some ta
def zdl (p_0:Plan) (way_1:(List zM)) (t_2:Train) (place_3:Int):Option (Int):=
Zb (zdA p_0 way_1 place_3 t_2.2.1) λy1=>
Zb (iter (σ:=(Int×Int)) (τ:=Int) (λs8=>
cond (decide (s8.2<(zm y1))) (Zb (idx y1 s8.2) λxa=>
Zb (idx p_0.2.1 xa.1) λxb=>
some (.inl ((min s8.1 xb.2.2.2.1),(w64 (s8.2+1))))) (some (.inr s8.1))) big (t_2.2.2.1,0)) λta=>
some ta
def zdP (r_0:zY) (x_1:zd):Option (Bool):=
Zb (iter (σ:=(Int×Int×Int)) (τ:=(Bool×Int×Int)) (λsa=>
Zb (zL r_0.2.2.1 (sa.2.1,sa.2.2,())) λyb=>
cond (decide (yb>r_0.2.2.2.2.1)) (some (.inr (false,sa.2.1,sa.2.2))) (Zb (zc2 .i64 sa.2.1 r_0.2.2.1.1) λxa=>
Zb (zL r_0.2.2.1 (sa.2.1,sa.2.2,())) λyc=>
Zb (zdl r_0.1 r_0.2.1 r_0.2.2.1 yc) λyd=>
cond (decide (xa>yd)) (some (.inr (false,sa.2.1,sa.2.2))) (cond (sa.2.1==0) (some (.inr (true,sa.2.1,sa.2.2))) (cond (sa.1==36000) (some (.inr (false,sa.2.1,sa.2.2))) (Zb (zL r_0.2.2.1 (sa.2.1,sa.2.2,())) λye=>
Zb (zaT r_0 ye) λyf=>
Zb (zay r_0.2.2.1 (sa.2.1,sa.2.2,()) (-4) yf r_0.2.2.2.1) λya=>
cond (!ya.2.2) (some (.inr (false,ya.1.1,ya.1.2.1))) (some (.inl ((w64 (sa.1+1)),ya.1.1,ya.1.2.1)))))))) big (0,x_1.1,x_1.2.1)) λta=>
some ta.1
def zci (r_0:zY) (x_1:zd):Option (Int×Bool):=
Zb (iter (σ:=Int) (τ:=Unit⊕(Int×Bool)) (λsa=>
cond (decide (sa>=(-4))) (Zb (zL r_0.2.2.1 x_1) λyb=>
Zb (zaT r_0 yb) λyc=>
Zb (zay r_0.2.2.1 x_1 sa yc r_0.2.2.2.1) λya=>
cond ya.2.2 (Zb (zdP r_0 ya.1) λyd=>
cond yd (some (.inr (.inr (sa,true)))) (some (.inl (w64 (sa-1))))) (some (.inl (w64 (sa-1))))) (some (.inr (.inl ())))) big 4) λta=>
alt (λbb=>some (0,false)) (λba=>some (ba.1,ba.2)) ta
def zbB (t_0:Train) (x_1:zd) (demand_2:Int) (slope_3:Int) (state_4:Int):Option (Int×Int):=
Zb (zc2 .i64 x_1.1 t_0.1) λx3=>
Zb (zdz t_0 x3 demand_2 slope_3 state_4) λy4=>
Zb (zay t_0 x_1 demand_2 slope_3 state_4) λy5=>
Zb (zc2 .i64 (w64 ((w64 ((w64 (y4.1*y5.1.1))+(w64 (1000*t_0.1))))-1)) (w64 (1000*t_0.1))) λxa=>
Zb (zc2 .i64 (w64 ((w64 (y4.2.1*y5.1.1))*t_0.2.2.2.2.2.2.2.2.1)) (w64 (100000*t_0.1))) λxb=>
some (xa,xb)
def zeq (a_0:zV) (b_1:zV):Option (zV):=
some (((w64 (a_0.1+b_1.1)),(w64 (a_0.2.1+b_1.2.1)),(w64 (a_0.2.2.1+b_1.2.2.1)),(w64 (a_0.2.2.2.1+b_1.2.2.2.1)),(w64 (a_0.2.2.2.2.1+b_1.2.2.2.2.1)),(w64 (a_0.2.2.2.2.2.1+b_1.2.2.2.2.2.1)),()):zV)
def zd7 (p_0:Plan) (way_1:(List zM)) (t_2:Train) (state_3:Int) (stops_4:(List Int)):Option ((List Leg)×Bool):=
Zb (idx stops_4 0) λx3=>
Zb (iter (σ:=((List Leg)×Int×Int×Int)) (τ:=((List Leg)×Int×Int)⊕((List Leg)×Bool)) (λsb=>
cond (decide (sb.2.1<(zm stops_4))) (Zb (idx stops_4 sb.2.1) λxb=>
Zb (iter (σ:=(Int×Int×Int×Int×Int×Int×Int×Int×Int×Int×Int×Int)) (τ:=(Train×zd×Int×(List Int)×Int×Int×Int×Int×Bool×Int×Int×Int×Int×Int×Int×Int×Int×Int×Int×Int)⊕((List Leg)×Bool×Int×Int×Int×Int×Int×Int×Int×Int×Int×Int×Int)) (λsa=>
cond (decide (sa.2.2.2.2.2.2.2.2.2.2.1>0)) (cond (sa.1==36000) (some (.inr (.inr ([],false,sa.2.1,sa.2.2.1,sa.2.2.2.1,sa.2.2.2.2.1,sa.2.2.2.2.2.1,sa.2.2.2.2.2.2.1,sa.2.2.2.2.2.2.2.1,sa.2.2.2.2.2.2.2.2.1,sa.2.2.2.2.2.2.2.2.2.1,sa.2.2.2.2.2.2.2.2.2.2.1,sa.2.2.2.2.2.2.2.2.2.2.2)))) (cond (decide (sa.2.2.2.2.2.2.2.2.2.2.2>10000000000000000)) (some (.inr (.inr ([],false,sa.2.1,sa.2.2.1,sa.2.2.2.1,sa.2.2.2.2.1,sa.2.2.2.2.2.1,sa.2.2.2.2.2.2.1,sa.2.2.2.2.2.2.2.1,sa.2.2.2.2.2.2.2.2.1,sa.2.2.2.2.2.2.2.2.2.1,sa.2.2.2.2.2.2.2.2.2.2.1,sa.2.2.2.2.2.2.2.2.2.2.2)))) (Zb (zci ((p_0,way_1,t_2,state_3,xb,()):zY) (sa.2.2.2.2.2.2.2.2.2.2.1,sa.2.2.2.2.2.2.2.2.2.2.2,())) λyc=>
cond (!yc.2) (some (.inr (.inr ([],false,sa.2.1,sa.2.2.1,sa.2.2.2.1,sa.2.2.2.2.1,sa.2.2.2.2.2.1,sa.2.2.2.2.2.2.1,sa.2.2.2.2.2.2.2.1,sa.2.2.2.2.2.2.2.2.1,sa.2.2.2.2.2.2.2.2.2.1,sa.2.2.2.2.2.2.2.2.2.2.1,sa.2.2.2.2.2.2.2.2.2.2.2)))) (Zb (zL t_2 (sa.2.2.2.2.2.2.2.2.2.2.1,sa.2.2.2.2.2.2.2.2.2.2.2,())) λyl=>
Zb (zaT ((p_0,way_1,t_2,state_3,xb,()):zY) yl) λyh=>
Zb (zbB t_2 (sa.2.2.2.2.2.2.2.2.2.2.1,sa.2.2.2.2.2.2.2.2.2.2.2,()) yc.1 yh state_3) λyi=>
Zb (zay t_2 (sa.2.2.2.2.2.2.2.2.2.2.1,sa.2.2.2.2.2.2.2.2.2.2.2,()) yc.1 yh state_3) λyd=>
Zb (zeq (sa.2.2.1,sa.2.2.2.1,sa.2.2.2.2.1,sa.2.2.2.2.2.1,sa.2.2.2.2.2.2.1,sa.2.2.2.2.2.2.2.1,()) yd.2.1) λya=>
some (.inl ((w64 (sa.1+1)),(w64 (sa.2.1+100)),ya.1,ya.2.1,ya.2.2.1,ya.2.2.2.1,ya.2.2.2.2.1,ya.2.2.2.2.2.1,(max sa.2.2.2.2.2.2.2.2.1 yi.1),(max sa.2.2.2.2.2.2.2.2.2.1 yi.2),yd.1.1,yd.1.2.1)))))) (Zb (zL t_2 (sa.2.2.2.2.2.2.2.2.2.2.1,sa.2.2.2.2.2.2.2.2.2.2.2,())) λye=>
Zb (idx stops_4 sb.2.1) λxa=>
cond (decide (ye<(w64 (xa-1000)))) (cond (sa.1==36000) (some (.inr (.inr ([],false,sa.2.1,sa.2.2.1,sa.2.2.2.1,sa.2.2.2.2.1,sa.2.2.2.2.2.1,sa.2.2.2.2.2.2.1,sa.2.2.2.2.2.2.2.1,sa.2.2.2.2.2.2.2.2.1,sa.2.2.2.2.2.2.2.2.2.1,sa.2.2.2.2.2.2.2.2.2.2.1,sa.2.2.2.2.2.2.2.2.2.2.2)))) (cond (decide (sa.2.2.2.2.2.2.2.2.2.2.2>10000000000000000)) (some (.inr (.inr ([],false,sa.2.1,sa.2.2.1,sa.2.2.2.1,sa.2.2.2.2.1,sa.2.2.2.2.2.1,sa.2.2.2.2.2.2.1,sa.2.2.2.2.2.2.2.1,sa.2.2.2.2.2.2.2.2.1,sa.2.2.2.2.2.2.2.2.2.1,sa.2.2.2.2.2.2.2.2.2.2.1,sa.2.2.2.2.2.2.2.2.2.2.2)))) (Zb (zci ((p_0,way_1,t_2,state_3,xb,()):zY) (sa.2.2.2.2.2.2.2.2.2.2.1,sa.2.2.2.2.2.2.2.2.2.2.2,())) λyf=>
cond (!yf.2) (some (.inr (.inr ([],false,sa.2.1,sa.2.2.1,sa.2.2.2.1,sa.2.2.2.2.1,sa.2.2.2.2.2.1,sa.2.2.2.2.2.2.1,sa.2.2.2.2.2.2.2.1,sa.2.2.2.2.2.2.2.2.1,sa.2.2.2.2.2.2.2.2.2.1,sa.2.2.2.2.2.2.2.2.2.2.1,sa.2.2.2.2.2.2.2.2.2.2.2)))) (Zb (zL t_2 (sa.2.2.2.2.2.2.2.2.2.2.1,sa.2.2.2.2.2.2.2.2.2.2.2,())) λym=>
Zb (zaT ((p_0,way_1,t_2,state_3,xb,()):zY) ym) λyj=>
Zb (zbB t_2 (sa.2.2.2.2.2.2.2.2.2.2.1,sa.2.2.2.2.2.2.2.2.2.2.2,()) yf.1 yj state_3) λyk=>
Zb (zay t_2 (sa.2.2.2.2.2.2.2.2.2.2.1,sa.2.2.2.2.2.2.2.2.2.2.2,()) yf.1 yj state_3) λyg=>
Zb (zeq (sa.2.2.1,sa.2.2.2.1,sa.2.2.2.2.1,sa.2.2.2.2.2.1,sa.2.2.2.2.2.2.1,sa.2.2.2.2.2.2.2.1,()) yg.2.1) λyb=>
some (.inl ((w64 (sa.1+1)),(w64 (sa.2.1+100)),yb.1,yb.2.1,yb.2.2.1,yb.2.2.2.1,yb.2.2.2.2.1,yb.2.2.2.2.2.1,(max sa.2.2.2.2.2.2.2.2.1 yk.1),(max sa.2.2.2.2.2.2.2.2.2.1 yk.2),yg.1.1,yg.1.2.1)))))) (some (.inr (.inl (t_2,(sa.2.2.2.2.2.2.2.2.2.2.1,sa.2.2.2.2.2.2.2.2.2.2.2,()),ye,stops_4,sb.2.1,xa,xa,(w64 (xa-1000)),(decide (ye<(w64 (xa-1000)))),sa.2.1,sa.2.2.1,sa.2.2.2.1,sa.2.2.2.2.1,sa.2.2.2.2.2.1,sa.2.2.2.2.2.2.1,sa.2.2.2.2.2.2.2.1,sa.2.2.2.2.2.2.2.2.1,sa.2.2.2.2.2.2.2.2.2.1,sa.2.2.2.2.2.2.2.2.2.2.1,sa.2.2.2.2.2.2.2.2.2.2.2)))))) big (0,0,0,0,0,0,0,0,0,0,sb.2.2.1,sb.2.2.2)) λta=>
alt (λba=>Zb (zL t_2 (ba.2.2.2.2.2.2.2.2.2.2.2.2.2.2.2.2.2.2.1,ba.2.2.2.2.2.2.2.2.2.2.2.2.2.2.2.2.2.2.2,())) λyn=>
Zb (zdp 80 sb.1 ([(ba.2.2.2.2.2.2.2.2.2.1,yn,(ba.2.2.2.2.2.2.2.2.2.2.1,ba.2.2.2.2.2.2.2.2.2.2.2.1,ba.2.2.2.2.2.2.2.2.2.2.2.2.1,ba.2.2.2.2.2.2.2.2.2.2.2.2.2.1,ba.2.2.2.2.2.2.2.2.2.2.2.2.2.2.1,ba.2.2.2.2.2.2.2.2.2.2.2.2.2.2.2.1,()),ba.2.2.2.2.2.2.2.2.2.2.2.2.2.2.2.2.1,ba.2.2.2.2.2.2.2.2.2.2.2.2.2.2.2.2.2.1,())])) λxd=>
some (.inl (xd,(w64 (sb.2.1+1)),ba.2.2.2.2.2.2.2.2.2.2.2.2.2.2.2.2.2.2.1,ba.2.2.2.2.2.2.2.2.2.2.2.2.2.2.2.2.2.2.2))) (λbb=>some (.inr (.inr (bb.1,bb.2.1)))) ta) (some (.inr (.inl (sb.1,sb.2.2.1,sb.2.2.2))))) big ([],1,0,(w64 ((w64 (10*t_2.1))*x3)))) λtb=>
alt (λbc=>some (bc.1,(decide (bc.2.2<=10000000000000000)))) (λbd=>some (bd.1,bd.2)) tb
def zfr (p_0:Plan) (way_1:(List zM)) (t_2:Train) (state_3:Int) (stops_4:(List Int)):Option ((List Int)×Bool):=
Zb (zd6 p_0 way_1 t_2 state_3 stops_4) λy1=>
cond (!y1) (some ([],false)) (Zb (zd7 p_0 way_1 t_2 state_3 stops_4) λy3=>
Zb (iter (σ:=((List Int)×Int)) (τ:=(List Int)) (λs9=>
cond (decide (s9.2<(zm y3.1))) (Zb (idx y3.1 s9.2) λxa=>
Zb (zdp 8 s9.1 ([xa.1])) λxb=>
some (.inl (xb,(w64 (s9.2+1))))) (some (.inr s9.1))) big ([],0)) λta=>
some (ta,y3.2))
def zcL (p_0:Plan) (l_1:Line) (home_2:Bool):Option ((List Int)×Bool):=
Zb (zcr l_1 home_2) λy1=>
Zb (Zb (zep p_0 y1.1) λyb=>
cond (!yb) (some true) (Zb (zbu (zm y1.2.1) 2 60) λyc=>
cond (!yc) (some true) (cond ((zm y1.2.2.1)!=(zm y1.2.1)) (some true) (Zb (idx y1.2.2.1 0) λxa=>
cond (xa !=0) (some true) (Zb (idx y1.2.2.1 (w64 ((zm y1.2.2.1)-1))) λxb=>
some (xb !=0)))))) λca=>
cond ca (some ([],false)) (Zb (iter (σ:=Int) (τ:=Unit⊕((List Int)×Bool)) (λsa=>
cond (decide (sa<(zm y1.2.1))) (Zb (idx y1.2.1 sa) λxd=>
Zb (zb1 p_0 y1.1) λyd=>
Zb (zbu xd 1 yd) λye=>
cond (!ye) (some (.inr (.inr ([],false)))) (Zb (idx y1.2.2.1 sa) λxe=>
Zb (zbu xe 0 600) λyf=>
cond (!yf) (some (.inr (.inr ([],false)))) (cond (decide (sa>0)) (Zb (idx y1.2.1 sa) λxf=>
Zb (idx y1.2.1 (w64 (sa-1))) λxg=>
cond (decide (xf<=xg)) (some (.inr (.inr ([],false)))) (some (.inl (w64 (sa+1))))) (some (.inl (w64 (sa+1))))))) (some (.inr (.inl ())))) big 0) λta=>
alt (λbb=>Zb (zfr p_0 y1.1 l_1.2.2.1 l_1.2.2.2.1 y1.2.1) λya=>
cond (!ya.2) (some ([],false)) (Zb (iter (σ:=((List Int)×Int)) (τ:=(List Int)) (λsb=>
cond (decide (sb.2<(zm ya.1))) (Zb (idx ya.1 sb.2) λxh=>
Zb (zc2 .i64 (w64 (xh+999)) 1000) λxi=>
Zb (zdp 8 sb.1 ([(max 1 xi)])) λxj=>
some (.inl (xj,(w64 (sb.2+1))))) (some (.inr sb.1))) big ([],0)) λtb=>
some (tb,true))) (λba=>some (ba.1,ba.2)) ta)
def zeJ (p_0:Plan) (l_1:Line) (home_2:Bool):Option (List Int):=
Zb (zcL p_0 l_1 home_2) λy1=>
some y1.1
def zai (p_0:Plan) (l_1:Line) (home_2:Bool):Option (List Int):=
Zb (zcr l_1 home_2) λy1=>
Zb (zeJ p_0 l_1 home_2) λy3=>
Zb (iter (σ:=((List Int)×Int)) (τ:=(List Int)) (λsa=>
cond (decide (sa.2<(zm y3))) (Zb (idx sa.1 sa.2) λxa=>
Zb (idx y3 sa.2) λxb=>
Zb (idx y1.2.2.1 (w64 (sa.2+1))) λxd=>
Zb (zdp 8 sa.1 ([(w64 ((w64 (xa+xb))+xd))])) λxe=>
some (.inl (xe,(w64 (sa.2+1))))) (some (.inr sa.1))) big ([0],0)) λta=>
some ta
def zdQ (p_0:Plan) (l_1:Line):Option (Bool):=
Zb (zbu l_1.2.2.2.2.1 0 3600) λy1=>
cond (!y1) (some false) (Zb (iter (σ:=Int) (τ:=Unit⊕(Bool)) (λsa=>
cond (decide (sa<2)) (Zb (zcL p_0 l_1 (sa==1)) λyb=>
cond (!yb.2) (some (.inr (.inr false))) (Zb (zai p_0 l_1 (sa==1)) λya=>
Zb (idx ya (w64 ((zm ya)-1))) λxa=>
cond (decide (xa>50000)) (some (.inr (.inr false))) (some (.inl (w64 (sa+1)))))) (some (.inr (.inl ())))) big 0) λta=>
alt (λbb=>some true) (λba=>some ba) ta)
def zeK (a_0:(List Int)) (b_1:(List Int)):Option (Bool):=
cond ((zm a_0)!=(zm b_1)) (some false) (Zb (iter (σ:=Int) (τ:=Unit⊕(Bool)) (λs8=>
cond (decide (s8<(zm a_0))) (Zb (idx a_0 s8) λxa=>
Zb (idx b_1 s8) λxb=>
cond (xa !=xb) (some (.inr (.inr false))) (some (.inl (w64 (s8+1))))) (some (.inr (.inl ())))) big 0) λta=>
alt (λbb=>some true) (λba=>some ba) ta)
def zcj (p_0:Plan) (l_1:Line) (home_2:Bool):Option (Int):=
Zb (zai p_0 l_1 home_2) λy1=>
Zb (idx y1 (w64 ((zm y1)-1))) λx3=>
some x3
def zd8 (p_0:Plan) (l_1:Line):Option (Int):=
Zb (zcj p_0 l_1 false) λy3=>
Zb (zcj p_0 l_1 true) λy4=>
some (w64 ((w64 (y3+y4))+(w64 (2*l_1.2.2.2.2.1))))
def zer (p_0:Plan) (s_1:Service):Option (Bool):=
Zb (iter (σ:=Int) (τ:=Unit⊕(Bool)) (λs5=>
cond (decide (s5<(zm s_1.1))) (Zb (idx s_1.1 s5) λx8=>
Zb (zcP x8) λy9=>
cond (!y9) (some (.inr (.inr false))) (some (.inl (w64 (s5+1))))) (some (.inr (.inl ())))) big 0) λta=>
alt (λbb=>Zb (Zb (zd1 p_0) λya=>
cond ya (cond (decide ((zm s_1.1)<=3)) (cond (decide ((zm s_1.2.1)<=4)) (some (decide ((zm s_1.2.2.1)<=4))) (some false)) (some false)) (some false)) λca=>
some ca) (λba=>some ba) ta
def zcA (p_0:Plan) (s_1:Service):Option (Bool):=
Zb (Zb (zcO p_0) λy7=>
cond (!y7) (some true) (Zb (zbu (zm s_1.1) 1 20) λy9=>
cond (!y9) (some true) (cond ((zm s_1.2.1)!=(zm s_1.1)) (some true) (some ((zm s_1.2.2.1)!=(zm s_1.1)))))) λc6=>
cond c6 (some false) (Zb (iter (σ:=Int) (τ:=Unit⊕(Bool)) (λsa=>
cond (decide (sa<(zm s_1.1))) (Zb (idx s_1.1 sa) λxa=>
Zb (zdQ p_0 xa) λya=>
cond (!ya) (some (.inr (.inr false))) (Zb (idx s_1.2.1 sa) λxb=>
Zb (zbu xb 30 7200) λyb=>
cond (!yb) (some (.inr (.inr false))) (Zb (idx s_1.2.2.1 sa) λxd=>
Zb (idx s_1.2.1 sa) λxe=>
Zb (zbu xd 0 (w64 (xe-1))) λyc=>
cond (!yc) (some (.inr (.inr false))) (some (.inl (w64 (sa+1))))))) (some (.inr (.inl ())))) big 0) λta=>
alt (λbb=>some true) (λba=>some ba) ta)
def zcB (p_0:Plan) (l_1:(List Line)):Option ((List zo)×Bool):=
Zb (zw (zm l_1) 1 20) λy1=>
cond (!y1) (some ([],false)) (Zb (iter (σ:=((List zo)×Int)) (τ:=(List zo)⊕((List zo)×Bool)) (λsa=>
cond (decide (sa.2<(zm l_1))) (Zb (idx l_1 sa.2) λxa=>
Zb (zby p_0 xa) λya=>
cond (!ya.2) (some (.inr (.inr ([],false)))) (Zb ya.1 λpa=>
Zb (zdp 8 sa.1 ([pa])) λxb=>
some (.inl (xb,(w64 (sa.2+1)))))) (some (.inr (.inl sa.1)))) big ([],0)) λta=>
alt (λbb=>some (bb,true)) (λba=>some (ba.1,ba.2)) ta)
def zb2 (p_0:Plan) (s_1:Service):Option ((List zo)×Bool):=
Zb (cond ((zm s_1.2.1)!=(zm s_1.1)) (some true) (some ((zm s_1.2.2.1)!=(zm s_1.1)))) λc4=>
cond c4 (some ([],false)) (Zb (iter (σ:=Int) (τ:=Unit⊕((List zo)×Bool)) (λsa=>
cond (decide (sa<(zm s_1.2.1))) (Zb (idx s_1.2.1 sa) λxa=>
Zb (zw xa 30 7200) λyb=>
cond (!yb) (some (.inr (.inr ([],false)))) (Zb (idx s_1.2.2.1 sa) λxb=>
Zb (zw xb 0 (w64 (xa-1))) λyc=>
cond (!yc) (some (.inr (.inr ([],false)))) (some (.inl (w64 (sa+1)))))) (some (.inr (.inl ())))) big 0) λta=>
alt (λbb=>Zb (zcB p_0 s_1.1) λya=>
some (ya.1,ya.2)) (λba=>some (ba.1,ba.2)) ta)
def zdE (h_0:Int) (p_1:(List Int)):Option (Bool):=
Zb (idx p_1 0) λx1=>
some (h_0 !=x1)
def zcX (l_0:(List Int)):Option (Bool):=
Zb (zas l_0 (λx=>zdE x l_0)) λy1=>
some (!y1)
def zaN (all_0:(List zo)) (l_1:(List Connection)):Option (Bool):=
Zb (iter (σ:=Int) (τ:=Unit⊕(Bool)) (λsa=>
cond (decide (sa<(zm l_1))) (Zb (idx l_1 sa) λxa=>
Zb (zw xa.1 0 (w64 ((zm all_0)-1))) λya=>
cond (!ya) (some (.inr (.inr false))) (Zb (zw xa.2.2.2.1 0 (w64 ((zm all_0)-1))) λyb=>
cond (!yb) (some (.inr (.inr false))) (Zb (zw xa.2.2.2.2.2.2.1 0 xa.2.2.2.2.2.2.2.1) λyc=>
cond (!yc) (some (.inr (.inr false))) (cond (decide (xa.2.2.2.2.2.2.2.1>7200)) (some (.inr (.inr false))) (Zb (idx all_0 xa.1) λxb=>
Zb (zbz xa.2.1) λyd=>
Zb (idx xb.2.2.1 yd) λxd=>
Zb (idx all_0 xa.2.2.2.1) λxe=>
Zb (zbz xa.2.2.2.2.1) λye=>
Zb (idx xe.2.2.1 ye) λxf=>
Zb (zw xa.2.2.1 1 (w64 ((zm xd)-1))) λyf=>
cond (!yf) (some (.inr (.inr false))) (Zb (zw xa.2.2.2.2.2.1 0 (w64 ((zm xf)-2))) λyg=>
cond (!yg) (some (.inr (.inr false))) (some (.inl (w64 (sa+1)))))))))) (some (.inr (.inl ())))) big 0) λta=>
alt (λbb=>some (decide ((zm l_1)<=60))) (λba=>some ba) ta
def zbm (r_0:zo) (side_1:Int) (headway_2:Int) (offset_3:Int):Option (Int):=
cond (side_1==0) (some offset_3) (Zb (zU r_0 0) λy6=>
Zb (zbl r_0 headway_2) λy7=>
Zb (zaL r_0) λy8=>
Zb (zc2 .i64 (w64 ((w64 (y7*headway_2))-y8)) 2) λx9=>
some (w64 ((w64 ((w64 (offset_3+y6))+r_0.1.2.2.2.2.1))+x9)))
def zdF (n_0:Int) (h_1:Int):Option (Int):=
Zb (zl5 n_0 h_1) λx1=>
Zb (zl5 (w64 (x1+h_1)) h_1) λx2=>
some x2
def zbC (all_0:(List zo)) (headway_1:Int) (offsets_2:(List Int)) (c_3:Connection):Option (Int):=
Zb (idx all_0 c_3.1) λx3=>
Zb (idx all_0 c_3.2.2.2.1) λx4=>
Zb (zbz c_3.2.1) λy7=>
Zb (zbz c_3.2.2.2.2.1) λy8=>
Zb (idx offsets_2 c_3.1) λxa=>
Zb (zbm x3 y7 headway_1 xa) λya=>
Zb (idx x3.2.2.1 y7) λxb=>
Zb (idx xb c_3.2.2.1) λxd=>
Zb (zaX x3.1) λyb=>
Zb (idx yb y7) λxe=>
Zb (idx xe.2.2.1 c_3.2.2.1) λxf=>
Zb (idx offsets_2 c_3.2.2.2.1) λxg=>
Zb (zbm x4 y8 headway_1 xg) λyc=>
Zb (idx x4.2.2.1 y8) λxh=>
Zb (idx xh c_3.2.2.2.2.2.1) λxi=>
Zb (zdF (w64 ((w64 ((w64 (yc+xi))-(w64 ((w64 (ya+xd))-xf))))-c_3.2.2.2.2.2.2.1)) headway_1) λyd=>
some (w64 (c_3.2.2.2.2.2.2.1+yd))
def za0 (p_0:Plan) (s_1:Service) (c_2:Connection):Option (Int×Int):=
Zb (zb2 p_0 s_1) λy1=>
Zb (cond (!y1.2) (some true) (Zb (zcX s_1.2.1) λy8=>
cond (!y8) (some true) (Zb (zaN y1.1 ([c_2])) λya=>
some (!ya)))) λc6=>
cond c6 (some (0,2)) (Zb (idx s_1.2.1 0) λxa=>
Zb (zbC y1.1 xa s_1.2.2.1 c_2) λyb=>
some (yb,0))
def zQ (s_0:(List Connection)) (f_1:((Connection)->Option (Bool))):Option (Int):=
Zb (iter (σ:=Int) (τ:=Unit⊕(Int)) (λs5=>
cond (decide (s5<(zm s_0))) (Zb (idx s_0 s5) λx8=>
Zb (f_1 x8) λy9=>
cond y9 (some (.inr (.inr s5))) (some (.inl (w64 (s5+1))))) (some (.inr (.inl ())))) big 0) λta=>
alt (λbb=>some (-1)) (λba=>some ba) ta
def zZ (s_0:(List Connection)) (f_1:((Connection)->Option (Bool))):Option (Bool):=
Zb (zQ s_0 f_1) λy1=>
some (decide (y1>=0))
def zcC (c_0:Connection) (p_1:(List zo)) (p_2:Service):Option (Bool):=
Zb (idx p_2.2.1 0) λx3=>
Zb (zbC p_1 x3 p_2.2.2.1 c_0) λy4=>
some (decide (y4>c_0.2.2.2.2.2.2.2.1))
def zcD (p_0:Plan) (s_1:Service) (l_2:(List Connection)):Option (Bool×Int):=
Zb (zb2 p_0 s_1) λy1=>
Zb (cond (!y1.2) (some true) (Zb (zcX s_1.2.1) λy9=>
cond (!y9) (some true) (Zb (zaN y1.1 l_2) λya=>
some (!ya)))) λc7=>
cond c7 (some (false,2)) (Zb (zZ l_2 (λx=>zcC x y1.1 s_1)) λyb=>
some ((!yb),0))
def zeL (s_0:Service):Option (Bool):=
Zb (iter (σ:=Int) (τ:=Unit⊕(Bool)) (λs7=>
cond (decide (s7<(zm s_0.2.1))) (Zb (idx s_0.2.1 s7) λxa=>
Zb (idx s_0.2.1 0) λxb=>
cond (xa !=xb) (some (.inr (.inr false))) (some (.inl (w64 (s7+1))))) (some (.inr (.inl ())))) big 1) λta=>
alt (λbb=>some true) (λba=>some ba) ta
def zaO (lines_0:(List Line)) (c_1:Connection):Option (Bool):=
Zb (Zb (zbu c_1.1 0 (w64 ((zm lines_0)-1))) λy8=>
cond (!y8) (some true) (Zb (zbu c_1.2.2.2.1 0 (w64 ((zm lines_0)-1))) λya=>
cond (!ya) (some true) (Zb (zbu c_1.2.2.2.2.2.2.1 0 c_1.2.2.2.2.2.2.2.1) λyb=>
cond (!yb) (some true) (some (decide (c_1.2.2.2.2.2.2.2.1>7200)))))) λc7=>
cond c7 (some false) (Zb (Zb (idx lines_0 c_1.1) λxa=>
Zb (zcr xa c_1.2.1) λyc=>
Zb (zbu c_1.2.2.1 1 (w64 ((zm yc.2.1)-1))) λyd=>
cond yd (Zb (idx lines_0 c_1.2.2.2.1) λxb=>
Zb (zcr xb c_1.2.2.2.2.1) λye=>
Zb (zbu c_1.2.2.2.2.2.1 0 (w64 ((zm ye.2.1)-2))) λyf=>
some yf) (some false)) λca=>
some ca)
def zes (a_0:Int) (n_1:Int):Option (Int):=
Zb (zl5 a_0 n_1) λx1=>
Zb (zl5 (w64 (x1+n_1)) n_1) λx2=>
some x2
def zfD (p_0:Plan) (l_1:Line) (h_2:Int):Option (Int):=
Zb (zd8 p_0 l_1) λy1=>
Zb (zc2 .i64 (w64 ((w64 (y1+h_2))-1)) h_2) λx2=>
some x2
def zdR (p_0:Plan) (s_1:Service) (line_2:Int) (home_3:Bool):Option (Int):=
Zb (idx s_1.1 line_2) λx1=>
cond (!home_3) (Zb (idx s_1.2.2.1 line_2) λx4=>
some x4) (Zb (idx s_1.2.1 line_2) λx9=>
Zb (zfD p_0 x1 x9) λya=>
Zb (idx s_1.2.1 line_2) λxa=>
Zb (zd8 p_0 x1) λyb=>
Zb (idx s_1.2.2.1 line_2) λxb=>
Zb (zcj p_0 x1 false) λyc=>
Zb (zc2 .i64 (w64 ((w64 (ya*xa))-yb)) 2) λxd=>
some (w64 ((w64 ((w64 (xb+yc))+x1.2.2.2.2.1))+xd)))
def zcQ (p_0:Plan) (s_1:Service) (c_2:Connection):Option (Int):=
Zb (idx s_1.1 c_2.1) λx5=>
Zb (idx s_1.1 c_2.2.2.2.1) λx6=>
Zb (zdR p_0 s_1 c_2.1 c_2.2.1) λya=>
Zb (zai p_0 x5 c_2.2.1) λyb=>
Zb (idx yb c_2.2.2.1) λxa=>
Zb (zcr x5 c_2.2.1) λyc=>
Zb (idx yc.2.2.1 c_2.2.2.1) λxb=>
Zb (zdR p_0 s_1 c_2.2.2.2.1 c_2.2.2.2.2.1) λyd=>
Zb (zai p_0 x6 c_2.2.2.2.2.1) λye=>
Zb (idx ye c_2.2.2.2.2.2.1) λxd=>
some (w64 ((w64 (yd+xd))-(w64 ((w64 (ya+xa))-xb))))
def zeM (p_0:Plan) (s_1:Service) (c_2:Connection):Option (Int):=
Zb (zcQ p_0 s_1 c_2) λy4=>
Zb (idx s_1.2.1 0) λx5=>
Zb (zes (w64 (y4-c_2.2.2.2.2.2.2.1)) x5) λy6=>
some (w64 (c_2.2.2.2.2.2.2.1+y6))
def zaE (lines_0:(List Line)) (l_1:(List Connection)):Option (Bool):=
Zb (iter (σ:=Int) (τ:=Unit⊕(Bool)) (λs5=>
cond (decide (s5<(zm l_1))) (Zb (idx l_1 s5) λx8=>
Zb (zaO lines_0 x8) λy9=>
cond (!y9) (some (.inr (.inr false))) (some (.inl (w64 (s5+1))))) (some (.inr (.inl ())))) big 0) λta=>
alt (λbb=>some (decide ((zm l_1)<=60))) (λba=>some ba) ta
def zaY   (rec:Int->(List Connection)->(List zo)->Int->(List Int)->(List Line)->Int->Option (((Bool)×(List Int)×Int)⊕Unit)) (n_0:Int) (p_1:(List Connection)) (p_2:(List zo)) (p_3:Int) (p_4:(List Int)) (p_5:(List Line)) (p_6:Int):Option (((Bool)×(List Int)×Int)⊕Unit):=
Zb (iter (σ:=Int) (τ:=Unit⊕(Bool)) (λsb=>
cond (decide (sb<(zm p_1))) (Zb (idx p_1 sb) λxa=>
cond ((max xa.1 xa.2.2.2.1)==(w64 (n_0-1))) (Zb (zbC p_2 p_3 p_4 xa) λyb=>
cond (decide (yb>xa.2.2.2.2.2.2.2.1)) (some (.inr (.inr false))) (some (.inl (w64 (sb+1))))) (some (.inl (w64 (sb+1))))) (some (.inr (.inl ())))) big 0) λta=>
alt (λbe=>cond (n_0==(zm p_5)) (some (.inl (true,p_4,p_6))) (Zb (idx p_4 n_0) λxe=>
Zb (iter (σ:=((List Int)×Int)) (τ:=((List Int)×Int)⊕(Unit⊕(Bool×(List Int)×Int))) (λsa=>
Zb (idx sa.1 n_0) λxb=>
cond (decide (xb<p_3)) (cond (sa.2==100000) (some (.inr (.inr (.inl ())))) (Zb (rec (w64 (n_0+1)) p_1 p_2 p_3 sa.1 p_5 (w64 (sa.2+1))) λyc=>
alt (λya=>cond ya.1 (some (.inr (.inr (.inr (true,ya.2.1,ya.2.2))))) (Zb (idx ya.2.1 n_0) λxd=>
Zb (idx ya.2.1 n_0) λxf=>
some (.inl ((ya.2.1).set (Int.toNat n_0) (w64 (xd+1)),ya.2.2)))) (λya=>some (.inr (.inr (.inl ())))) yc)) (some (.inr (.inl (sa.1,sa.2))))) big ((p_4).set (Int.toNat n_0) 0,p_6)) λtb=>
alt (λba=>Zb (idx ba.1 n_0) λxg=>
some (.inl (false,(ba.1).set (Int.toNat n_0) 0,ba.2))) (λbc=>alt (λbf=>some (.inr ())) (λbb=>some (.inl (bb.1,bb.2.1,bb.2.2))) bc) tb)) (λbd=>some (.inl (bd,p_4,p_6))) ta
def zaV  :Nat->Int->(List Connection)->(List zo)->Int->(List Int)->(List Line)->Int->Option (((Bool)×(List Int)×Int)⊕Unit)
 | 0=>λ_ _ _ _ _ _ _=>none
 | k+1=>zaY (zaV k)
def zbv (p_0:Plan) (l_1:(List Line)) (headway_2:Int) (connections_3:(List Connection)):Option ((List Int)×Int):=
Zb (zcB p_0 l_1) λy3=>
Zb (cond (!y3.2) (some true) (Zb (zw headway_2 30 7200) λyb=>
cond (!yb) (some true) (Zb (zaN y3.1 connections_3) λyc=>
some (!yc)))) λca=>
cond ca (some ([],2)) (Zb (mkO 8 (zm l_1) (0:Int)) λxa=>
Zb (zaV big 1 connections_3 y3.1 headway_2 xa l_1 0) λyd=>
alt (λya=>cond (!ya.1) (some ([],4)) (some (ya.2.1,0))) (λya=>some ([],8)) yd)
def zbe (h_0:Int) (l_1:(List Connection)) (d_2:(List Int)) (o_3:(List Int)) (line_4:Int):Option (Bool):=
Zb (iter (σ:=Int) (τ:=Unit⊕(Bool)) (λsa=>
cond (decide (sa<(zm l_1))) (Zb (idx l_1 sa) λxa=>
cond ((max xa.1 xa.2.2.2.1)==line_4) (Zb (idx d_2 sa) λxb=>
Zb (idx o_3 xa.2.2.2.1) λxd=>
Zb (idx o_3 xa.1) λxe=>
Zb (zes (w64 ((w64 ((w64 (xb+xd))-xe))-xa.2.2.2.2.2.2.1)) h_0) λya=>
cond (decide ((w64 (xa.2.2.2.2.2.2.1+ya))>xa.2.2.2.2.2.2.2.1)) (some (.inr (.inr false))) (some (.inl (w64 (sa+1))))) (some (.inl (w64 (sa+1))))) (some (.inr (.inl ())))) big 0) λta=>
alt (λbb=>some true) (λba=>some ba) ta
def zbw   (rec:Int->(List Connection)->(List Int)->(List Int)->Int->Int->Option ((Int×Bool)×(List Int))) (h_0:Int) (l_1:(List Connection)) (d_2:(List Int)) (o_3:(List Int)) (line_4:Int) (tries_5:Int):Option ((Int×Bool)×(List Int)):=
cond (line_4==(zm o_3)) (some ((tries_5,true),o_3)) (cond (line_4==0) (Zb (iter (σ:=(Int×Int×(List Int))) (τ:=(Int×(List Int))⊕(Int×Bool×(List Int))) (λsa=>
cond (decide (sa.2.1<=0)) (cond (decide (line_4>0)) (cond (decide ((w64 (sa.1+1))>100000)) (some (.inr (.inr ((w64 (sa.1+1)),false,sa.2.2)))) (Zb (idx sa.2.2 line_4) λxa=>
Zb (zbe h_0 l_1 d_2 ((sa.2.2).set (Int.toNat line_4) sa.2.1) line_4) λye=>
cond (!ye) (some (.inl ((w64 (sa.1+1)),(w64 (sa.2.1+1)),(sa.2.2).set (Int.toNat line_4) sa.2.1))) (Zb (rec h_0 l_1 d_2 ((sa.2.2).set (Int.toNat line_4) sa.2.1) (w64 (line_4+1)) (w64 (sa.1+1))) λya=>
cond ya.1.2 (some (.inr (.inr (ya.1.1,ya.1.2,ya.2)))) (cond (decide (ya.1.1>100000)) (some (.inr (.inr (ya.1.1,ya.1.2,ya.2)))) (some (.inl (ya.1.1,(w64 (sa.2.1+1)),ya.2))))))) (cond (decide (sa.1>100000)) (some (.inr (.inr (sa.1,false,sa.2.2)))) (Zb (idx sa.2.2 line_4) λxb=>
Zb (zbe h_0 l_1 d_2 ((sa.2.2).set (Int.toNat line_4) sa.2.1) line_4) λyf=>
cond (!yf) (some (.inl (sa.1,(w64 (sa.2.1+1)),(sa.2.2).set (Int.toNat line_4) sa.2.1))) (Zb (rec h_0 l_1 d_2 ((sa.2.2).set (Int.toNat line_4) sa.2.1) (w64 (line_4+1)) sa.1) λyb=>
cond yb.1.2 (some (.inr (.inr (yb.1.1,yb.1.2,yb.2)))) (cond (decide (yb.1.1>100000)) (some (.inr (.inr (yb.1.1,yb.1.2,yb.2)))) (some (.inl (yb.1.1,(w64 (sa.2.1+1)),yb.2)))))))) (some (.inr (.inl (sa.1,sa.2.2))))) big (tries_5,0,o_3)) λta=>
alt (λbc=>some ((bc.1,false),bc.2)) (λba=>some ((ba.1,ba.2.1),ba.2.2)) ta) (Zb (iter (σ:=(Int×Int×(List Int))) (τ:=(Int×(List Int))⊕(Int×Bool×(List Int))) (λsb=>
cond (decide (sb.2.1<=(w64 (h_0-1)))) (cond (decide (line_4>0)) (cond (decide ((w64 (sb.1+1))>100000)) (some (.inr (.inr ((w64 (sb.1+1)),false,sb.2.2)))) (Zb (idx sb.2.2 line_4) λxd=>
Zb (zbe h_0 l_1 d_2 ((sb.2.2).set (Int.toNat line_4) sb.2.1) line_4) λyg=>
cond (!yg) (some (.inl ((w64 (sb.1+1)),(w64 (sb.2.1+1)),(sb.2.2).set (Int.toNat line_4) sb.2.1))) (Zb (rec h_0 l_1 d_2 ((sb.2.2).set (Int.toNat line_4) sb.2.1) (w64 (line_4+1)) (w64 (sb.1+1))) λyc=>
cond yc.1.2 (some (.inr (.inr (yc.1.1,yc.1.2,yc.2)))) (cond (decide (yc.1.1>100000)) (some (.inr (.inr (yc.1.1,yc.1.2,yc.2)))) (some (.inl (yc.1.1,(w64 (sb.2.1+1)),yc.2))))))) (cond (decide (sb.1>100000)) (some (.inr (.inr (sb.1,false,sb.2.2)))) (Zb (idx sb.2.2 line_4) λxe=>
Zb (zbe h_0 l_1 d_2 ((sb.2.2).set (Int.toNat line_4) sb.2.1) line_4) λyh=>
cond (!yh) (some (.inl (sb.1,(w64 (sb.2.1+1)),(sb.2.2).set (Int.toNat line_4) sb.2.1))) (Zb (rec h_0 l_1 d_2 ((sb.2.2).set (Int.toNat line_4) sb.2.1) (w64 (line_4+1)) sb.1) λyd=>
cond yd.1.2 (some (.inr (.inr (yd.1.1,yd.1.2,yd.2)))) (cond (decide (yd.1.1>100000)) (some (.inr (.inr (yd.1.1,yd.1.2,yd.2)))) (some (.inl (yd.1.1,(w64 (sb.2.1+1)),yd.2)))))))) (some (.inr (.inl (sb.1,sb.2.2))))) big (tries_5,0,o_3)) λtb=>
alt (λbd=>some ((bd.1,false),bd.2)) (λbb=>some ((bb.1,bb.2.1),bb.2.2)) tb))
def zaH  :Nat->Int->(List Connection)->(List Int)->(List Int)->Int->Int->Option ((Int×Bool)×(List Int))
 | 0=>λ_ _ _ _ _ _=>none
 | k+1=>zbw (zaH k)
def zdc (p_0:Plan) (lines_1:(List Line)) (h_2:Int) (l_3:(List Connection)):Option ((List Int)×Int):=
Zb (iter (σ:=(Int×(List Int))) (τ:=(List Int)) (λs8=>
cond (decide (s8.1<(zm lines_1))) (Zb (zdp 8 s8.2 ([h_2])) λxa=>
some (.inl ((w64 (s8.1+1)),xa))) (some (.inr s8.2))) big (0,[])) λta=>
Zb (mkO 8 (zm lines_1) (0:Int)) λxb=>
Zb (iter (σ:=((List Int)×Int)) (τ:=(List Int)) (λsa=>
cond (decide (sa.2<(zm l_3))) (Zb (idx l_3 sa.2) λxd=>
Zb (zcQ p_0 (lines_1,ta,xb,()) xd) λyb=>
Zb (zdp 8 sa.1 ([yb])) λxe=>
some (.inl (xe,(w64 (sa.2+1))))) (some (.inr sa.1))) big ([],0)) λtb=>
Zb (mkO 8 (zm lines_1) (0:Int)) λxf=>
Zb (zaH big h_2 l_3 tb xf 0 0) λya=>
cond (decide (ya.1.1>100000)) (some ([],8)) (cond (!ya.1.2) (some ([],4)) (some (ya.2,0)))
def za6 (p_0:Plan) (lines_1:(List Line)) (headway_2:Int) (l_3:(List Connection)):Option (Bool):=
Zb (Zb (zer p_0 (lines_1,[],[],())) λy7=>
cond (!y7) (some true) (cond (decide ((zm l_3)>5)) (some true) (cond (decide (headway_2>90)) (some (decide (headway_2<=7200))) (some false)))) λc6=>
cond c6 (Zb zX λyc=>
some yc) (Zb (zbv p_0 lines_1 headway_2 l_3) λya=>
Zb (iter (σ:=(Int×(List Int)×(List Int))) (τ:=((List Int)×(List Int))) (λsa=>
cond (decide (sa.1<(zm lines_1))) (Zb (zdp 8 sa.2.2 ([headway_2])) λxa=>
Zb (zdp 8 sa.2.1 ([0])) λxb=>
some (.inl ((w64 (sa.1+1)),xb,xa))) (some (.inr (sa.2.2,sa.2.1)))) big (0,[],[])) λta=>
Zb (zcA p_0 (lines_1,ta.1,ta.2,())) λyd=>
cond (!yd) (Zb (cond (ya.2==2) (cond ((zm ya.1)==0) (Zb zX λye=>
some ye) (some false)) (some false)) λca=>
some ca) (Zb (zaE lines_1 l_3) λyf=>
cond (!yf) (Zb (cond (ya.2==2) (cond ((zm ya.1)==0) (Zb zX λyg=>
some yg) (some false)) (some false)) λcc=>
some cc) (Zb (zdc p_0 lines_1 headway_2 l_3) λyb=>
Zb (cond (ya.2==yb.2) (Zb (zeK ya.1 yb.1) λyh=>
cond yh (Zb zX λyi=>
some yi) (some false)) (some false)) λcd=>
some cd)))
def zbR (headway_0:Int):Option (Bool):=
Zb (cond (decide (headway_0<30)) (some true) (some (decide (headway_0>400)))) λc4=>
cond c4 (Zb zX λy7=>
some y7) (Zb (zcq 21000) λy8=>
Zb (zeM y8.1 (([y8.2,y8.2,y8.2],[headway_0,headway_0,headway_0],[0,0,0],()):Service) ((2,false,2,2,true,0,0,0,()):Connection)) λyb=>
cond (yb==0) (Zb zX λyc=>
some yc) (Zb (zbv y8.1 ([y8.2,y8.2,y8.2]) headway_0 ([(2,false,2,2,true,0,0,(w64 (yb-1)),())])) λya=>
cond (decide ((w64 (headway_0+(w64 (headway_0*headway_0))))>100000)) (Zb (cond (ya.2==8) (cond ((zm ya.1)==0) (Zb zX λyd=>
some yd) (some false)) (some false)) λca=>
some ca) (Zb (cond (ya.2==4) (cond ((zm ya.1)==0) (Zb zX λye=>
some ye) (some false)) (some false)) λcc=>
some cc)))
def zb7 (p_0:Plan) (s_1:Service) (l_2:(List Connection)) (more_3:Int):Option (Bool):=
Zb (Zb (zer p_0 s_1) λyh=>
cond (!yh) (some true) (cond (decide ((zm l_2)>5)) (some true) (Zb (zcA p_0 s_1) λyi=>
cond (!yi) (some true) (Zb (zeL s_1) λyj=>
cond (!yj) (some true) (Zb (idx s_1.2.1 0) λxb=>
cond (decide (xb>90)) (some true) (Zb (zaE s_1.1 l_2) λyk=>
cond (!yk) (some true) (cond (decide (more_3<0)) (some true) (some (decide (more_3>7200)))))))))) λca=>
cond ca (Zb zX λyl=>
some yl) (Zb (idx s_1.2.1 0) λxa=>
Zb (zbv p_0 s_1.1 xa l_2) λyc=>
Zb (zcD p_0 s_1 l_2) λyd=>
Zb (cond (yd.2 !=0) (some true) (cond (yc.2==4) (some yd.1) (some false))) λcc=>
cond cc (some false) (cond (yc.2==0) (Zb (zcD p_0 (s_1.1,s_1.2.1,yc.1,()) l_2) λye=>
Zb (cond (ye.2 !=0) (some true) (some (!ye.1))) λcd=>
cond cd (some false) (Zb (iter (σ:=(Int×(List Int))) (τ:=(List Int)) (λsc=>
cond (decide (sc.1<(zm s_1.2.2.1))) (Zb (idx s_1.2.2.1 sc.1) λxd=>
Zb (zl5 (w64 (xd+more_3)) xa) λxe=>
Zb (zdp 8 sc.2 ([xe])) λxf=>
some (.inl ((w64 (sc.1+1)),xf))) (some (.inr sc.2))) big (0,[])) λta=>
Zb (iter (σ:=Int) (τ:=Unit⊕(Bool)) (λsa=>
cond (decide (sa<(zm l_2))) (Zb (idx l_2 sa) λxg=>
Zb (za0 p_0 s_1 xg) λya=>
Zb (idx l_2 sa) λxh=>
Zb (za0 p_0 (s_1.1,s_1.2.1,ta,()) xh) λyf=>
cond (ya.2 !=0) (some (.inr (.inr false))) (cond (yf.2 !=0) (some (.inr (.inr false))) (cond (ya.1 !=yf.1) (some (.inr (.inr false))) (Zb (idx l_2 sa) λxi=>
cond (decide (ya.1<xi.2.2.2.2.2.2.1)) (some (.inr (.inr false))) (Zb (idx l_2 sa) λxj=>
cond (decide (ya.1>=(w64 (xj.2.2.2.2.2.2.1+xa)))) (some (.inr (.inr false))) (some (.inl (w64 (sa+1))))))))) (some (.inr (.inl ())))) big 0) λtb=>
alt (λbc=>Zb zX λym=>
some ym) (λba=>some ba) tb)) (Zb (iter (σ:=(Int×(List Int))) (τ:=(List Int)) (λsd=>
cond (decide (sd.1<(zm s_1.2.2.1))) (Zb (idx s_1.2.2.1 sd.1) λxk=>
Zb (zl5 (w64 (xk+more_3)) xa) λxl=>
Zb (zdp 8 sd.2 ([xl])) λxm=>
some (.inl ((w64 (sd.1+1)),xm))) (some (.inr sd.2))) big (0,[])) λtc=>
Zb (iter (σ:=Int) (τ:=Unit⊕(Bool)) (λsb=>
cond (decide (sb<(zm l_2))) (Zb (idx l_2 sb) λxn=>
Zb (za0 p_0 s_1 xn) λyb=>
Zb (idx l_2 sb) λxo=>
Zb (za0 p_0 (s_1.1,s_1.2.1,tc,()) xo) λyg=>
cond (yb.2 !=0) (some (.inr (.inr false))) (cond (yg.2 !=0) (some (.inr (.inr false))) (cond (yb.1 !=yg.1) (some (.inr (.inr false))) (Zb (idx l_2 sb) λxp=>
cond (decide (yb.1<xp.2.2.2.2.2.2.1)) (some (.inr (.inr false))) (Zb (idx l_2 sb) λxq=>
cond (decide (yb.1>=(w64 (xq.2.2.2.2.2.2.1+xa)))) (some (.inr (.inr false))) (some (.inl (w64 (sb+1))))))))) (some (.inr (.inl ())))) big 0) λtd=>
alt (λbd=>Zb zX λyn=>
some yn) (λbb=>some bb) td)))
end Go.Ai.Sx