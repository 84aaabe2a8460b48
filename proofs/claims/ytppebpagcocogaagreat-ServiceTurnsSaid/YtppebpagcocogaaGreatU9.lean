/- Written by program: the data of the functions,and the functions as plain Lean. -/
import Derived.Test.YtppebpagcocogaaGreatU7
set_option linter.unusedSimpArgs false
set_option linter.unusedVariables false
set_option linter.unusedSectionVars false
namespace Go.Ai.Sx
open Option renaming bind->Zb,bind_some->Zs
abbrev Spot:Type:=Int×Int×Unit
abbrev zk:Type:=Int×Bool×Unit
abbrev zb4:Type:=Spot×Int×(List zk)×Int×Unit
abbrev Rail:Type:=Int×Int×(List Spot)×Int×Int×Unit
abbrev Plan:Type:=(List zb4)×(List Rail)×Unit
abbrev zH:Type:=Int×Bool×Unit
abbrev Course:Type:=(List zH)×(List Int)×(List Int)×Unit
abbrev Train:Type:=Int×Int×Int×Int×Int×Int×Int×Int×Int×(List Int)×Unit
abbrev Line:Type:=Course×Course×Train×Int×Int×Unit
abbrev za5:Type:=Plan×(List Int)×(List (zk×Int))×Unit
abbrev ziN:Type:=Plan×Unit×zd×Unit
abbrev zax:Type:=zb4×Unit
abbrev zam:Type:=Train×Int×Unit
abbrev zav:Type:=zam×(List zH)×(List Int)×(List Int)×(List Int)×(List Int)×Unit
abbrev zkh:Type:=zam×(List zH)×Unit×Unit×Unit×(List Int)×Unit
abbrev zb:Type:=Int×Int×Unit
abbrev z5:Type:=Int×Int×Int×Int×Int×Int×Unit
abbrev za4:Type:=zb×z5×Int×Int×Unit
abbrev Leg:Type:=Int×Int×z5×Int×Int×Unit
abbrev zl:Type:=Line×(List (List Int))×(List (List Int))×Unit
abbrev z8:Type:=Plan×(List zH)×Train×Int×Int×Unit
abbrev Cover:Type:=Int×Int×Int×Unit
abbrev Service:Type:=(List Line)×(List Int)×(List Int)×Unit
abbrev Connection:Type:=Int×Bool×Int×Int×Bool×Int×Int×Int×Unit
abbrev Works:Type:=Int×Int×Int×Unit
abbrev Trip:Type:=Int×Bool×Int×Int×Unit
abbrev zch:Rep Spot:=(zK (zj .i64) (zK (zj .i64) zc6))
abbrev zV:Rep zk:=(zK (zj .i64) (zK zaw zc6))
abbrev zbR:Rep zb4:=(zK zch (zK (zj .i64) (zK (zf zV) (zK (zj .i64) zc6))))
abbrev zdH:Rep Rail:=(zK (zj .i64) (zK (zj .i64) (zK (zf zch) (zK (zj .i64) (zK (zj .i64) zc6)))))
abbrev zbl:Rep Plan:=(zK (zf zbR) (zK (zf zdH) zc6))
abbrev zR:Rep zH:=(zK (zj .i64) (zK zaw zc6))
abbrev zco:Rep Course:=(zK (zf zR) (zK (zf (zj .i64)) (zK (zf (zj .i64)) zc6)))
abbrev zbE:Rep Train:=(zK (zj .i64) (zK (zj .i64) (zK (zj .i64) (zK (zj .i64) (zK (zj .i64) (zK (zj .i64) (zK (zj .i64) (zK (zj .i64) (zK (zj .i64) (zK (zf (zj .i64)) zc6))))))))))
abbrev zdk:Rep Line:=(zK zco (zK zco (zK zbE (zK (zj .i64) (zK (zj .i64) zc6)))))
abbrev zab:Rep za5:=(zK zbl (zK (zf (zj .i64)) (zK (zpR zV (zj .i64)) zc6)))
abbrev zih:Rep ziN:=(zK zbl (zK zte (zK zw3 zc6)))
abbrev zaq:Rep zax:=(zK zbR zc6)
abbrev zJ:Rep zam:=(zK zbE (zK (zj .i64) zc6))
abbrev zay:Rep zav:=(zK (zaY zJ) (zK (zf zR) (zK (zf (zj .i64)) (zK (zf (zj .i64)) (zK (zf (zj .i64)) (zK (zf (zj .i64)) zc6))))))
abbrev zjQ:Rep zkh:=(zK (zaY zJ) (zK (zf zR) (zK zte (zK zte (zK zte (zK (zf (zj .i64)) zc6))))))
abbrev zr:Rep zb:=(zK (zj .i64) (zK (zj .i64) zc6))
abbrev zy:Rep z5:=(zK (zj .i64) (zK (zj .i64) (zK (zj .i64) (zK (zj .i64) (zK (zj .i64) (zK (zj .i64) zc6))))))
abbrev zaI:Rep za4:=(zK zr (zK zy (zK (zj .i64) (zK (zj .i64) zc6))))
abbrev zfX:Rep Leg:=(zK (zj .i64) (zK (zj .i64) (zK zy (zK (zj .i64) (zK (zj .i64) zc6)))))
theorem ztj:FOk zfX 0 (zj .i64) (λx=>x.1) (λx y=>(y,x.2.1,x.2.2.1,x.2.2.2.1,x.2.2.2.2.1,())):=FOk.off FOk.here rfl
abbrev zi:Rep zl:=(zK zdk (zK (zjB 2 (zf (zj .i64))) (zK (zjB 2 (zf (zj .i64))) zc6)))
abbrev zaf:Rep z8:=(zK zbl (zK (zf zR) (zK zbE (zK (zj .i64) (zK (zj .i64) zc6)))))
abbrev zgy:Rep Cover:=(zK (zj .i64) (zK (zj .i64) (zK (zj .i64) zc6)))
theorem zpB:FOk zgy 0 (zj .i64) (λx=>x.1) (λx y=>(y,x.2.1,x.2.2.1,())):=FOk.off FOk.here rfl
abbrev zdR:Rep Service:=(zK (zf zdk) (zK (zf (zj .i64)) (zK (zf (zj .i64)) zc6)))
abbrev zd6:Rep Works:=(zK (zj .i64) (zK (zj .i64) (zK (zj .i64) zc6)))
abbrev z7:Rep Trip:=(zK (zj .i64) (zK zaw (zK (zj .i64) (zK (zj .i64) zc6))))
theorem zbF {x:z5}:Cells zy x [.val (zj .i64) x.1,.val (zj .i64) x.2.1,.val (zj .i64) x.2.2.1,.val (zj .i64) x.2.2.2.1,.val (zj .i64) x.2.2.2.2.1,.val (zj .i64) x.2.2.2.2.2.1]:=(zu (zE rfl) (zu (zE rfl) (zu (zE rfl) (zu (zE rfl) (zu (zE rfl) (zu (zE rfl) zb6 rfl) rfl) rfl) rfl) rfl) rfl)
theorem zg5 {x:zb}:Cells zr x [.val (zj .i64) x.1,.val (zj .i64) x.2.1]:=(zu (zE rfl) (zu (zE rfl) zb6 rfl) rfl)
def zdh:List Int:=[0,1,2,2,3,3,3,3,4,4,4,4,4,4,4,4,5,5,5,5,5,5,5,5,5,5,5,5,5,5,5,5,6,6,6,6,6,6,6,6,6,6,6,6,6,6,6,6,6,6,6,6,6,6,6,6,6,6,6,6,6,6,6,6,7,7,7,7,7,7,7,7,7,7,7,7,7,7,7,7,7,7,7,7,7,7,7,7,7,7,7,7,7,7,7,7,7,7,7,7,7,7,7,7,7,7,7,7,7,7,7,7,7,7,7,7,7,7,7,7,7,7,7,7,7,7,7,7,8,8,8,8,8,8,8,8,8,8,8,8,8,8,8,8,8,8,8,8,8,8,8,8,8,8,8,8,8,8,8,8,8,8,8,8,8,8,8,8,8,8,8,8,8,8,8,8,8,8,8,8,8,8,8,8,8,8,8,8,8,8,8,8,8,8,8,8,8,8,8,8,8,8,8,8,8,8,8,8,8,8,8,8,8,8,8,8,8,8,8,8,8,8,8,8,8,8,8,8,8,8,8,8,8,8,8,8,8,8,8,8,8,8,8,8,8,8,8,8,8,8,8,8,8,8,8,8]
def zaa (n_0:Int) (low_1:Int) (high_2:Int):Option (Bool):=
Zb (cond (decide (n_0>=low_1)) (some (decide (n_0<=high_2))) (some false)) λc2=>
some c2
def zbf (s_0:Spot):Option (Bool):=
Zb (Zb (zaa s_0.1 (-10000000) 10000000) λy5=>
cond y5 (Zb (zaa s_0.2.1 (-10000000) 10000000) λy7=>
some y7) (some false)) λc4=>
some c4
def zaC (k_0:Int):Option (Int):=
cond (k_0==1) (some 1) (cond (k_0==2) (some 2) (cond (k_0==3) (some 4) (cond (k_0==4) (cond (k_0==4) (some 3) (some 0)) (cond (k_0==5) (cond (k_0==5) (some 3) (some 0)) (cond (k_0==6) (some 3) (some 0))))))
def zcX (p_0:Plan) (rail_1:Int):Option (List Spot):=
Zb (idx p_0.2.1 rail_1) λx1=>
Zb (idx p_0.1 x1.1) λx3=>
Zb (zda 16 ([x3.1]) x1.2.2.1) λx5=>
Zb (idx p_0.1 x1.2.1) λx7=>
Zb (zda 16 x5 ([x7.1])) λx8=>
some x8
def zev (n_0:Int):Option (Int):=
Zb (iter (σ:=(Int×Int)) (τ:=Int) (λs4=>
cond (decide ((w64 (s4.2-s4.1))>1)) (Zb (zcH .i64 (w64 (s4.1+s4.2)) 2) λx7=>
cond (decide ((w64 (x7*x7))<=n_0)) (some (.inl (x7,s4.2))) (some (.inl (s4.1,x7)))) (some (.inr s4.1))) big (0,30000000)) λt9=>
some t9
def zcY (a_0:Spot) (b_1:Spot):Option (Int):=
Zb (zev (w64 ((w64 ((w64 (a_0.1-b_1.1))*(w64 (a_0.1-b_1.1))))+(w64 ((w64 (a_0.2.1-b_1.2.1))*(w64 (a_0.2.1-b_1.2.1))))))) λy1=>
some y1
def ze1 (p_0:Plan) (e_1:zk):Option (Int):=
cond e_1.2.1 (Zb (idx p_0.2.1 e_1.1) λx2=>
some x2.2.1) (Zb (idx p_0.2.1 e_1.1) λx3=>
some x3.1)
def zcD (p_0:Plan):Option (Bool):=
Zb (Zb (zaa (zq p_0.1) 1 300) λy5=>
cond (!y5) (some true) (Zb (zaa (zq p_0.2.1) 1 400) λy7=>
some (!y7))) λc4=>
cond c4 (some false) (Zb (iter (σ:=Int) (τ:=Unit⊕(Bool)) (λsc=>
cond (decide (sc<(zq p_0.1))) (Zb (idx p_0.1 sc) λxa=>
cond (xa.2.1==5) (Zb (zaa xa.2.2.2.1 1 2) λyb=>
Zb (zbf xa.1) λyc=>
cond (!yc) (some (.inr (.inr false))) (Zb (zaC xa.2.1) λyd=>
cond (yd==0) (some (.inr (.inr false))) (Zb (zaC xa.2.1) λye=>
cond ((zq xa.2.2.1)!=ye) (some (.inr (.inr false))) (cond (!yb) (some (.inr (.inr false))) (some (.inl (w64 (sc+1)))))))) (cond (xa.2.1==6) (Zb (zaa xa.2.2.2.1 1 2) λyf=>
Zb (zbf xa.1) λyg=>
cond (!yg) (some (.inr (.inr false))) (Zb (zaC xa.2.1) λyh=>
cond (yh==0) (some (.inr (.inr false))) (Zb (zaC xa.2.1) λyi=>
cond ((zq xa.2.2.1)!=yi) (some (.inr (.inr false))) (cond (!yf) (some (.inr (.inr false))) (some (.inl (w64 (sc+1)))))))) (Zb (zbf xa.1) λyj=>
cond (!yj) (some (.inr (.inr false))) (Zb (zaC xa.2.1) λyk=>
cond (yk==0) (some (.inr (.inr false))) (Zb (zaC xa.2.1) λyl=>
cond ((zq xa.2.2.1)!=yl) (some (.inr (.inr false))) (cond (!(xa.2.2.2.1==0)) (some (.inr (.inr false))) (some (.inl (w64 (sc+1)))))))))) (some (.inr (.inl ())))) big 0) λta=>
alt (λbj=>Zb (iter (σ:=Int) (τ:=Unit⊕(Bool)) (λsd=>
cond (decide (sd<(zq p_0.2.1))) (Zb (idx p_0.2.1 sd) λxb=>
Zb (zaa xb.1 0 (w64 ((zq p_0.1)-1))) λym=>
cond (!ym) (some (.inr (.inr false))) (Zb (zaa xb.2.1 0 (w64 ((zq p_0.1)-1))) λyn=>
cond (!yn) (some (.inr (.inr false))) (cond (decide ((zq xb.2.2.1)>30)) (some (.inr (.inr false))) (Zb (zaa xb.2.2.2.1 1 50000) λyo=>
cond (!yo) (some (.inr (.inr false))) (Zb (zaa xb.2.2.2.2.1 (-120) 120) λyp=>
cond (!yp) (some (.inr (.inr false))) (Zb (iter (σ:=Int) (τ:=Unit⊕(Bool)) (λsf=>
cond (decide (sf<(zq xb.2.2.1))) (Zb (idx xb.2.2.1 sf) λxe=>
Zb (zbf xe) λyq=>
cond (!yq) (some (.inr (.inr false))) (some (.inl (w64 (sf+1))))) (some (.inr (.inl ())))) big 0) λtb=>
alt (λbk=>Zb (zcX p_0 sd) λya=>
Zb (iter (σ:=Int) (τ:=Unit⊕(Bool)) (λse=>
cond (decide (se<(zq ya))) (Zb (idx ya (w64 (se-1))) λxf=>
Zb (idx ya se) λxg=>
Zb (zcY xf xg) λyr=>
Zb (zaa yr 1 1000000) λys=>
cond (!ys) (some (.inr (.inr false))) (some (.inl (w64 (se+1))))) (some (.inr (.inl ())))) big 1) λtc=>
alt (λbl=>some (.inl (w64 (sd+1)))) (λba=>some (.inr (.inr ba))) tc) (λbb=>some (.inr (.inr bb))) tb)))))) (some (.inr (.inl ())))) big 0) λtd=>
alt (λbm=>Zb (iter (σ:=((List zk)×Int)) (τ:=(List zk)⊕(Bool)) (λsa=>
cond (decide (sa.2<(zq p_0.1))) (Zb (iter (σ:=((List zk)×Int)) (τ:=(List zk)⊕(Bool)) (λsb=>
Zb (idx p_0.1 sa.2) λxh=>
cond (decide (sb.2<(zq xh.2.2.1))) (Zb (idx p_0.1 sa.2) λxi=>
Zb (idx xi.2.2.1 sb.2) λxd=>
Zb (zaa xd.1 0 (w64 ((zq p_0.2.1)-1))) λyt=>
cond (!yt) (some (.inr (.inr false))) (Zb (ze1 p_0 xd) λyu=>
cond (yu !=sa.2) (some (.inr (.inr false))) (Zb (iter (σ:=Int) (τ:=Unit⊕(Bool)) (λsg=>
cond (decide (sg<(zq sb.1))) (Zb (idx sb.1 sg) λxj=>
cond (xj==xd) (some (.inr (.inr false))) (some (.inl (w64 (sg+1))))) (some (.inr (.inl ())))) big 0) λte=>
alt (λbn=>Zb (zda 16 sb.1 ([xd])) λxk=>
some (.inl (xk,(w64 (sb.2+1))))) (λbc=>some (.inr (.inr bc))) te))) (some (.inr (.inl sb.1)))) big (sa.1,0)) λtf=>
alt (λbd=>some (.inl (bd,(w64 (sa.2+1))))) (λbe=>some (.inr (.inr be))) tf) (some (.inr (.inl sa.1)))) big ([],0)) λtg=>
alt (λbf=>some ((zq bf)==(w64 (2*(zq p_0.2.1))))) (λbg=>some bg) tg) (λbh=>some bh) td) (λbi=>some bi) ta)
def zaB (p_0:Plan) (rail_1:Int):Option (Int):=
Zb (zcX p_0 rail_1) λy1=>
Zb (iter (σ:=(Int×Int)) (τ:=Int) (λsa=>
cond (decide (sa.2<(zq y1))) (Zb (idx y1 (w64 (sa.2-1))) λxa=>
Zb (idx y1 sa.2) λxb=>
Zb (zcY xa xb) λya=>
some (.inl ((w64 (sa.1+ya)),(w64 (sa.2+1))))) (some (.inr sa.1))) big (0,1)) λta=>
some ta
def zdS (p_0:Plan):Option (Bool):=
Zb (cond (decide ((zq p_0.1)>12)) (some true) (some (decide ((zq p_0.2.1)>12)))) λc2=>
cond c2 (some false) (Zb (iter (σ:=Int) (τ:=Unit⊕(Bool)) (λs8=>
cond (decide (s8<(zq p_0.1))) (Zb (idx p_0.1 s8) λxa=>
cond (decide ((zq xa.2.2.1)>6)) (some (.inr (.inr false))) (some (.inl (w64 (s8+1))))) (some (.inr (.inl ())))) big 0) λta=>
alt (λbc=>Zb (iter (σ:=Int) (τ:=Unit⊕(Bool)) (λsb=>
cond (decide (sb<(zq p_0.2.1))) (Zb (idx p_0.2.1 sb) λxb=>
cond (decide ((zq xb.2.2.1)>10)) (some (.inr (.inr false))) (some (.inl (w64 (sb+1))))) (some (.inr (.inl ())))) big 0) λtb=>
alt (λbd=>Zb (zcD p_0) λya=>
cond ya (Zb (iter (σ:=(Int×Int)) (τ:=Int) (λsa=>
cond (decide (sa.2<(zq p_0.2.1))) (Zb (zaB p_0 sa.2) λyb=>
some (.inl ((w64 (sa.1+yb)),(w64 (sa.2+1))))) (some (.inr sa.1))) big (0,0)) λtc=>
some (decide (tc<=200000))) (some (decide (0<=200000)))) (λba=>some ba) tb) (λbb=>some bb) ta)
def zcE (l_0:Line):Option (Bool):=
Zb (cond (decide ((zq l_0.1.1)<=12)) (cond (decide ((zq l_0.2.1.1)<=12)) (cond (decide ((zq l_0.1.2.1)<=6)) (cond (decide ((zq l_0.2.1.2.1)<=6)) (cond (decide ((zq l_0.1.2.2.1)<=8)) (cond (decide ((zq l_0.2.1.2.2.1)<=8)) (cond (decide ((zq l_0.2.2.1.2.2.2.2.2.2.2.2.2.1)<=10)) (cond (decide (l_0.2.2.1.2.2.2.2.1>=200)) (cond (decide (l_0.2.2.1.2.2.2.1>=200)) (some (decide (l_0.2.2.1.1<=4000))) (some false)) (some false)) (some false)) (some false)) (some false)) (some false)) (some false)) (some false)) (some false)) λca=>
some ca
def zO (x_0:Int) (low_1:Int) (high_2:Int):Option (Bool):=
Zb (cond (decide (x_0>=low_1)) (some (decide (x_0<=high_2))) (some false)) λc2=>
some c2
def zQ (x_0:Int) (low_1:Int) (high_2:Int):Option (Bool):=
Zb (cond (decide (x_0>=low_1)) (some (decide (x_0<=high_2))) (some false)) λc2=>
some c2
def zar (s_0:(List zb4)) (f_1:((zb4)->Option (Bool))):Option (Int):=
Zb (iter (σ:=Int) (τ:=Unit⊕(Int)) (λs5=>
cond (decide (s5<(zq s_0))) (Zb (idx s_0 s5) λx8=>
Zb (f_1 x8) λy9=>
cond y9 (some (.inr (.inr s5))) (some (.inl (w64 (s5+1))))) (some (.inr (.inl ())))) big 0) λta=>
alt (λbb=>some (-1)) (λba=>some ba) ta
def zag (s_0:(List zb4)) (f_1:((zb4)->Option (Bool))):Option (Bool):=
Zb (zar s_0 f_1) λy1=>
some (decide (y1>=0))
def zcy (s_0:Spot):Option (Bool):=
Zb (Zb (zQ s_0.1 (-10000000) 10000000) λy5=>
cond y5 (Zb (zQ s_0.2.1 (-10000000) 10000000) λy7=>
some y7) (some false)) λc4=>
some c4
def zeR :Option (List Int):=
some (List.replicate 1 0++([1,2,4,3,3,3]:(List Int)))
def zew (n_0:zb4):Option (Bool):=
Zb (cond (decide (n_0.2.1<1)) (some true) (cond (decide (n_0.2.1>6)) (some true) (Zb (zcy n_0.1) λya=>
cond (!ya) (some true) (Zb zeR λyb=>
Zb (idx yb n_0.2.1) λxa=>
some ((zq n_0.2.2.1)!=xa))))) λca=>
cond ca (some false) (Zb (cond (n_0.2.1==5) (some true) (some (n_0.2.1==6))) λcc=>
cond cc (Zb (zQ n_0.2.2.2.1 1 2) λyc=>
some yc) (some (n_0.2.2.2.1==0)))
def zfe (n_0:zb4):Option (Bool):=
Zb (zew n_0) λy1=>
some (!y1)
def zas (s_0:(List Rail)) (f_1:((Rail)->Option (Bool))):Option (Int):=
Zb (iter (σ:=Int) (τ:=Unit⊕(Int)) (λs5=>
cond (decide (s5<(zq s_0))) (Zb (idx s_0 s5) λx8=>
Zb (f_1 x8) λy9=>
cond y9 (some (.inr (.inr s5))) (some (.inl (w64 (s5+1))))) (some (.inr (.inl ())))) big 0) λta=>
alt (λbb=>some (-1)) (λba=>some ba) ta
def zah (s_0:(List Rail)) (f_1:((Rail)->Option (Bool))):Option (Bool):=
Zb (zas s_0 f_1) λy1=>
some (decide (y1>=0))
def zan (n_1:Int):Option (List Spot):=
cond (decide (n_1<0)) none (cond (decide ((w64 (n_1-(w64 (0-0))))>0)) (Zb (znO 16 (w64 (n_1-(w64 (0-0)))) ((0,0,()):Spot)) λx3=>
Zb (slz x3) λx5=>
some ([]:List Spot)) (some ([])))
def zai (slices_0:(List (List Spot))):Option (List Spot):=
Zb (iter (σ:=(Int×Int)) (τ:=Int) (λs4=>
cond (decide (s4.2<(zq slices_0))) (Zb (idx slices_0 s4.2) λx7=>
cond (decide ((w64 (s4.1+(zq x7)))<0)) none (some (.inl ((w64 (s4.1+(zq x7))),(w64 (s4.2+1)))))) (some (.inr s4.1))) big (0,0)) λt9=>
Zb (zan t9) λya=>
Zb (iter (σ:=((List Spot)×Int)) (τ:=(List Spot)) (λsa=>
cond (decide (sa.2<(zq slices_0))) (Zb (idx slices_0 sa.2) λxa=>
Zb (zda 16 sa.1 xa) λxb=>
some (.inl (xb,(w64 (sa.2+1))))) (some (.inr sa.1))) big (ya,0)) λta=>
some ta
def zdD (p_0:Plan) (r_1:Rail):Option (List Spot):=
Zb (idx p_0.1 r_1.1) λx5=>
Zb (idx p_0.1 r_1.2.1) λx6=>
Zb (zai ([[x5.1],r_1.2.2.1,[x6.1]])) λy7=>
some y7
def zex (n_0:Int):Option (Int):=
Zb (FloatKind.f64.format.sqrt (FloatKind.f64.nearest n_0)) λx1=>
Zb (f2i x1) λx2=>
Zb (iter (σ:=Int) (τ:=Int) (λs4=>
cond (decide ((w64 (s4*s4))>n_0)) (some (.inl (w64 (s4-1)))) (some (.inr s4))) big x2) λt7=>
Zb (iter (σ:=Int) (τ:=Int) (λsa=>
cond (decide ((w64 ((w64 (sa+1))*(w64 (sa+1))))<=n_0)) (some (.inl (w64 (sa+1)))) (some (.inr sa))) big t7) λta=>
some ta
def zcz (a_0:Spot) (b_1:Spot):Option (Int):=
Zb (zex (w64 ((w64 ((w64 (a_0.1-b_1.1))*(w64 (a_0.1-b_1.1))))+(w64 ((w64 (a_0.2.1-b_1.2.1))*(w64 (a_0.2.1-b_1.2.1))))))) λy1=>
some y1
def zey (p_0:Plan) (r_1:Rail):Option (Bool):=
Zb (Zb (zQ r_1.1 0 (w64 ((zq p_0.1)-1))) λyb=>
cond (!yb) (some true) (Zb (zQ r_1.2.1 0 (w64 ((zq p_0.1)-1))) λyc=>
cond (!yc) (some true) (cond (decide ((zq r_1.2.2.1)>30)) (some true) (Zb (zQ r_1.2.2.2.1 1 50000) λyd=>
cond (!yd) (some true) (Zb (zQ r_1.2.2.2.2.1 (-120) 120) λye=>
some (!ye)))))) λc9=>
cond c9 (some false) (Zb (zdD p_0 r_1) λya=>
Zb (iter (σ:=Int) (τ:=Unit⊕(Bool)) (λsa=>
cond (decide (sa<(zq ya))) (Zb (idx ya sa) λxa=>
Zb (zcy xa) λyf=>
cond (!yf) (some (.inr (.inr false))) (cond (decide (sa>0)) (Zb (idx ya (w64 (sa-1))) λxb=>
Zb (zcz xb xa) λyg=>
Zb (zQ yg 1 1000000) λyh=>
cond (!yh) (some (.inr (.inr false))) (some (.inl (w64 (sa+1))))) (some (.inl (w64 (sa+1)))))) (some (.inr (.inl ())))) big 0) λta=>
alt (λbb=>some true) (λba=>some ba) ta)
def zdT (r_0:Rail) (p_1:Plan):Option (Bool):=
Zb (zey p_1 r_0) λy1=>
some (!y1)
def zci (p_0:Plan) (e_1:zk):Option (Int):=
cond e_1.2.1 (Zb (idx p_0.2.1 e_1.1) λx2=>
some x2.2.1) (Zb (idx p_0.2.1 e_1.1) λx3=>
some x3.1)
def zdb (p_0:Plan):Option (Int):=
Zb (Zb (zQ (zq p_0.1) 1 300) λy5=>
cond (!y5) (some true) (Zb (zQ (zq p_0.2.1) 1 400) λy7=>
some (!y7))) λc4=>
cond c4 (some 2) (Zb (Zb (zag p_0.1 (λx=>zfe x)) λya=>
cond ya (some true) (Zb (zah p_0.2.1 (λx=>zdT x p_0)) λyb=>
some yb)) λca=>
cond ca (some 2) (Zb (iter (σ:=(Int×(List (zk×Bool)))) (τ:=(List (zk×Bool))⊕(Int)) (λsb=>
cond (decide (sb.1<(zq p_0.1))) (Zb (idx p_0.1 sb.1) λxb=>
Zb (iter (σ:=(Int×(List (zk×Bool)))) (τ:=(List (zk×Bool))⊕(Int×(List (zk×Bool)))) (λsa=>
cond (decide (sa.1<(zq xb.2.2.1))) (Zb (idx xb.2.2.1 sa.1) λxa=>
Zb (zQ xa.1 0 (w64 ((zq p_0.2.1)-1))) λyc=>
cond (!yc) (some (.inr (.inr (2,sa.2)))) (cond ((mget sa.2 xa).getD false) (some (.inr (.inr (2,sa.2)))) (Zb (zci p_0 xa) λyd=>
cond (yd !=sb.1) (some (.inr (.inr (2,sa.2)))) (some (.inl ((w64 (sa.1+1)),(mset sa.2 xa true))))))) (some (.inr (.inl sa.2)))) big (0,sb.2)) λta=>
alt (λba=>some (.inl ((w64 (sb.1+1)),ba))) (λbb=>some (.inr (.inr bb.1))) ta) (some (.inr (.inl sb.2)))) big (0,([]:(List (zk×Bool))))) λtb=>
alt (λbc=>Zb (zti bc) λxd=>
cond (xd !=(w64 (2*(zq p_0.2.1)))) (some 2) (some 0)) (λbd=>some bd) tb))
def zbs (l_0:Line):Option (List Course):=
some ([l_0.1,l_0.2.1]:(List Course))
def zdE (p_0:Plan):Option ((Option za5)×Bool):=
Zb (zdb p_0) λy1=>
cond (y1 !=0) (some ((none:Option za5),false)) (Zb (iter (σ:=(Int×(List Int))) (τ:=(List Int)) (λsc=>
cond (decide (sc.1<(zq p_0.2.1))) (Zb (idx p_0.2.1 sc.1) λxb=>
Zb (zdD p_0 xb) λya=>
Zb (iter (σ:=(Int×Int)) (τ:=Int) (λsa=>
cond (decide (sa.2<(zq ya))) (Zb (idx ya (w64 (sa.2-1))) λxd=>
Zb (idx ya sa.2) λxe=>
Zb (zcz xd xe) λyb=>
some (.inl ((w64 (sa.1+yb)),(w64 (sa.2+1))))) (some (.inr sa.1))) big (0,1)) λta=>
Zb (zda 8 sc.2 ([ta])) λxf=>
some (.inl ((w64 (sc.1+1)),xf))) (some (.inr sc.2))) big (0,[])) λtb=>
Zb (iter (σ:=(Int×(List (zk×Int)))) (τ:=(List (zk×Int))) (λsd=>
cond (decide (sd.1<(zq p_0.1))) (Zb (idx p_0.1 sd.1) λxa=>
Zb (iter (σ:=(Int×(List (zk×Int)))) (τ:=(List (zk×Int))) (λsb=>
cond (decide (sb.1<(zq xa.2.2.1))) (Zb (idx xa.2.2.1 sb.1) λxg=>
some (.inl ((w64 (sb.1+1)),(mset sb.2 xg sb.1)))) (some (.inr sb.2))) big (0,sd.2)) λtc=>
some (.inl ((w64 (sd.1+1)),tc))) (some (.inr sd.2))) big (0,([]:(List (zk×Int))))) λtd=>
some ((some ((p_0.1,p_0.2.1,()),tb,td,())),true))
def zbt (n_0:za5) (m_1:zH):Option (Bool):=
Zb (zQ m_1.1 0 (w64 ((zq n_0.1.2.1)-1))) λy2=>
some y2
def zdU (m_0:zH):Option (zk):=
some ((m_0.1,(!m_0.2.1),()):zk)
def zff (p_0:zax) (from_1:Int) (to_2:Int):Option (Bool):=
some false
def zez (p_0:zax) (from_1:Int) (to_2:Int):Option (Bool):=
some (from_1 !=to_2)
def zbG (p_0:zax) (from_1:Int) (to_2:Int):Option (Bool):=
Zb (cond (from_1 !=to_2) (Zb (zps (w64 (from_1+to_2)) 2) λx5=>
some (x5==0)) (some false)) λc3=>
some c3
def zb0 (p_0:zax) (from_1:Int) (to_2:Int):Option (Bool):=
Zb (cond (from_1 !=to_2) (cond (from_1==0) (some true) (some (to_2==0))) (some false)) λc3=>
some c3
def zbm (x_0:zax) (from_1:Int) (to_2:Int):Option (Bool):=
Zb (cond (from_1 !=0) (cond (to_2==0) (some true) (cond (from_1==0) (some (to_2==x_0.1.2.2.2.1)) (some false))) (cond (from_1==0) (some (to_2==x_0.1.2.2.2.1)) (some false))) λc5=>
some c5
def zbn (x_0:zax) (from_1:Int) (to_2:Int):Option (Bool):=
Zb (cond (from_1==0) (cond (to_2==x_0.1.2.2.2.1) (some true) (cond (from_1==x_0.1.2.2.2.1) (some (to_2==0)) (some false))) (cond (from_1==x_0.1.2.2.2.1) (some (to_2==0)) (some false))) λc5=>
some c5
def zbb (x_0:zax) (from_1:Int) (to_2:Int):Option (Bool):=
Zb (idx (List.replicate 1 (λ_=>none)++([(λx=>zff x.1 x.2.1 x.2.2),(λx=>zez x.1 x.2.1 x.2.2),(λx=>zbG x.1 x.2.1 x.2.2),(λx=>zb0 x.1 x.2.1 x.2.2),(λx=>zbm x.1 x.2.1 x.2.2),(λx=>zbn x.1 x.2.1 x.2.2)]:(List ((zax×Int×Int)->Option Bool)))) x_0.1.2.1) λx4=>
Zb (x4 (x_0,from_1,to_2)) λy5=>
some y5
def zdl (m_0:zH):Option (Int):=
cond m_0.2.1 (some (w64 ((w64 (2*m_0.1))+1))) (some (w64 (2*m_0.1)))
def za6 (x_0:Int):Option (Bool):=
some (x_0 !=x_0)
def zaU (x_0:Int) (y_1:Int):Option (Bool):=
Zb (Zb (za6 x_0) λy6=>
cond y6 (Zb (za6 y_1) λy8=>
cond (!y8) (some true) (some (decide (x_0<y_1)))) (some (decide (x_0<y_1)))) λc5=>
some c5
def zZ   (data_0:(List Int)) (a_1:Int) (b_2:Int):Option (List Int):=
Zb (iter (σ:=(Int×(List Int))) (τ:=(List Int)) (λsb=>
cond (decide (sb.1<b_2)) (Zb (iter (σ:=(Int×(List Int))) (τ:=(List Int)) (λsa=>
cond (decide (sa.1>a_1)) (Zb (idx sa.2 sa.1) λxb=>
Zb (idx sa.2 (w64 (sa.1-1))) λxd=>
Zb (zaU xb xd) λya=>
cond ya (Zb (idx sa.2 (w64 (sa.1-1))) λxa=>
Zb (idx sa.2 sa.1) λxe=>
Zb (idx sa.2 sa.1) λxf=>
Zb (idx ((sa.2).set (Int.toNat sa.1) xa) (w64 (sa.1-1))) λxg=>
some (.inl ((w64 (sa.1-1)),((sa.2).set (Int.toNat sa.1) xa).set (Int.toNat (w64 (sa.1-1))) xe))) (some (.inr sa.2))) (some (.inr sa.2))) big (sb.1,sb.2)) λta=>
some (.inl ((w64 (sb.1+1)),ta))) (some (.inr sb.2))) big ((w64 (a_1+1)),data_0)) λtb=>
some tb
def zef (x_0:Int):Option (Int):=
cond (decide (x_0>=4294967296)) (Zb (ziH .u64 x_0 32) λx2=>
cond (decide (x2>=65536)) (Zb (ziH .u64 x2 16) λx4=>
cond (decide (x4>=256)) (Zb (ziH .u64 x4 8) λx6=>
Zb (idx zdh (IntKind.u8.wrap x6)) λx7=>
some (w64 ((w64 ((w64 (32+16))+8))+(w64 x7)))) (Zb (idx zdh (IntKind.u8.wrap x4)) λx8=>
some (w64 ((w64 (32+16))+(w64 x8))))) (cond (decide (x2>=256)) (Zb (ziH .u64 x2 8) λxb=>
Zb (idx zdh (IntKind.u8.wrap xb)) λxd=>
some (w64 ((w64 (32+8))+(w64 xd)))) (Zb (idx zdh (IntKind.u8.wrap x2)) λxe=>
some (w64 (32+(w64 xe)))))) (cond (decide (x_0>=65536)) (Zb (ziH .u64 x_0 16) λxa=>
cond (decide (xa>=256)) (Zb (ziH .u64 xa 8) λxf=>
Zb (idx zdh (IntKind.u8.wrap xf)) λxg=>
some (w64 ((w64 ((w64 (0+16))+8))+(w64 xg)))) (Zb (idx zdh (IntKind.u8.wrap xa)) λxh=>
some (w64 ((w64 (0+16))+(w64 xh))))) (cond (decide (x_0>=256)) (Zb (ziH .u64 x_0 8) λxi=>
Zb (idx zdh (IntKind.u8.wrap xi)) λxj=>
some (w64 ((w64 (0+8))+(w64 xj)))) (Zb (idx zdh (IntKind.u8.wrap x_0)) λxk=>
some (w64 (0+(w64 xk))))))
def zdV (x_0:Int):Option (Int):=
Zb (zef x_0) λy2=>
some y2
def za7   (data_0:(List Int)) (a_1:Int) (b_2:Int) (limit_3:Int):Option (List Int):=
Zb (iter (σ:=(Int×Int×Int×Bool×Bool×(List Int))) (τ:=(List Int)) (λsa=>
cond (decide ((w64 (sa.2.1-sa.1))<=12)) (Zb (zZ sa.2.2.2.2.2 sa.1 sa.2.1) λya=>
some (.inr ya)) (cond (sa.2.2.1==0) none (cond (!sa.2.2.2.1) none none))) big (a_1,b_2,limit_3,true,true,data_0)) λta=>
some ta
def zbH   (x_0:(List Int)):Option (List Int):=
Zb (zdV (IntKind.u64.wrap (zq x_0))) λy1=>
Zb (za7 x_0 0 (zq x_0) y1) λy2=>
some y2
def zeA (n_0:Int):Option (zH):=
Zb (zcH .i64 n_0 2) λx2=>
Zb (zps n_0 2) λx3=>
some ((x2,(x3==1),()):zH)
def zbo {σ τ:Type} (step:σ->(zH)->Option (σ⊕τ)) (s_:σ) (p_1:za5) (p_2:zH):Option (σ⊕τ):=
Zb (zdU p_2) λy5=>
Zb (zci p_1.1 y5) λy6=>
Zb (idx p_1.1.1 y6) λx7=>
Zb (iter (σ:=((List Int)×Int)) (τ:=(List Int)) (λsa=>
cond (decide (sa.2<(zq x7.2.2.1))) (Zb (idx x7.2.2.1 sa.2) λxa=>
Zb (zdU p_2) λyc=>
Zb (zbb ((x7,()):zax) ((mget p_1.2.2.1 yc).getD 0) sa.2) λyd=>
cond yd (Zb (zdl ((xa.1,xa.2.1,()):zH)) λye=>
Zb (zda 8 sa.1 ([ye])) λxb=>
some (.inl (xb,(w64 (sa.2+1))))) (some (.inl (sa.1,(w64 (sa.2+1)))))) (some (.inr sa.1))) big ([],0)) λta=>
Zb (zbH ta) λyb=>
Zb (iter (σ:=(Int×(σ⊕τ))) (τ:=(σ⊕τ)⊕(σ⊕τ)) (λsb=>
cond (decide (sb.1<(zq yb))) (Zb (idx yb sb.1) λxd=>
Zb (zeA xd) λyf=>
Zb (goL sb.2) λsc=>
Zb (step sc yf) λya=>
cond (!(ya).isLeft) (some (.inr (.inr ya))) (some (.inl ((w64 (sb.1+1)),ya)))) (some (.inr (.inl sb.2)))) big (0,(.inl s_))) λtb=>
alt (λba=>some ba) (λbb=>some bb) tb
def zcm (n_0:za5) (m_1:zH):Option (za5×zH):=
some (n_0,m_1)
def zaM (n_0:za5) (m_1:zH) (k_2:zH):Option (Bool):=
Zb (zcm n_0 m_1) λy2=>
Zb (zbo (σ:=Bool) (τ:=Bool) (λs8 x3=>
cond (x3==k_2) (some (.inr true)) (some (.inl s8))) false y2.1 y2.2) λta=>
alt (λbb=>some false) (λba=>some ba) ta
def zb1 (n_0:za5) (l_1:(List zH)):Option (Bool):=
Zb (iter (σ:=Int) (τ:=Unit⊕(Bool)) (λsa=>
cond (decide (sa<(zq l_1))) (Zb (idx l_1 sa) λxa=>
Zb (zbt n_0 xa) λya=>
cond (!ya) (some (.inr (.inr false))) (cond (decide (sa>0)) (Zb (idx l_1 (w64 (sa-1))) λxb=>
Zb (zaM n_0 xb xa) λyb=>
cond (!yb) (some (.inr (.inr false))) (some (.inl (w64 (sa+1))))) (some (.inl (w64 (sa+1)))))) (some (.inr (.inl ())))) big 0) λta=>
alt (λbb=>Zb (zQ (zq l_1) 1 2000) λyc=>
some yc) (λba=>some ba) ta
def zaV (n_0:za5) (l_1:(List zH)):Option (Int):=
Zb (iter (σ:=(Int×Int)) (τ:=Int) (λs6=>
cond (decide (s6.2<(zq l_1))) (Zb (idx l_1 s6.2) λx9=>
Zb (idx n_0.2.1 x9.1) λxa=>
some (.inl ((w64 (s6.1+xa)),(w64 (s6.2+1))))) (some (.inr s6.1))) big (0,0)) λta=>
some ta
def zbV (p_0:Plan) (way_1:(List zH)):Option (Int×Int):=
Zb (zdE p_0) λy1=>
Zb (cond (!y1.2) (some true) (Zb y1.1 λp7=>
Zb (zb1 p7 way_1) λy8=>
some (!y8))) λc5=>
cond c5 (some (0,2)) (Zb y1.1 λpa=>
Zb (zaV pa way_1) λya=>
some (ya,0))
def zS (n_0:Int) (low_1:Int) (high_2:Int):Option (Bool):=
Zb (cond (decide (n_0>=low_1)) (some (decide (n_0<=high_2))) (some false)) λc2=>
some c2
def zbj (s_0:(List Int)) (f_1:((Int)->Option (Bool))):Option (Int):=
Zb (iter (σ:=Int) (τ:=Unit⊕(Int)) (λs5=>
cond (decide (s5<(zq s_0))) (Zb (idx s_0 s5) λx8=>
Zb (f_1 x8) λy9=>
cond y9 (some (.inr (.inr s5))) (some (.inl (w64 (s5+1))))) (some (.inr (.inl ())))) big 0) λta=>
alt (λbb=>some (-1)) (λba=>some ba) ta
def zaZ (s_0:(List Int)) (f_1:((Int)->Option (Bool))):Option (Bool):=
Zb (zbj s_0 f_1) λy1=>
some (decide (y1>=0))
def zeL (g_0:Int):Option (Bool):=
Zb (zS g_0 1 1000) λy1=>
some (!y1)
def zdm (t_0:Train):Option (Int):=
Zb (Zb (zS t_0.1 1000 80000) λya=>
cond (!ya) (some true) (Zb (zS t_0.2.1 1 60000) λyb=>
cond (!yb) (some true) (Zb (zS t_0.2.2.1 1 25000) λyc=>
cond (!yc) (some true) (Zb (zS t_0.2.2.2.1 1 200000) λyd=>
cond (!yd) (some true) (Zb (zS t_0.2.2.2.2.1 1 200000) λye=>
cond (!ye) (some true) (Zb (zS t_0.2.2.2.2.2.1 1 2000000) λyf=>
cond (!yf) (some true) (Zb (zS t_0.2.2.2.2.2.2.1 0 100000) λyg=>
cond (!yg) (some true) (Zb (zS t_0.2.2.2.2.2.2.2.1 0 10000) λyh=>
cond (!yh) (some true) (Zb (zS t_0.2.2.2.2.2.2.2.2.1 0 100) λyi=>
some (!yi)))))))))) λca=>
cond ca (some 2) (Zb (Zb (zS (zq t_0.2.2.2.2.2.2.2.2.2.1) 1 8) λyj=>
cond (!yj) (some true) (Zb (zaZ t_0.2.2.2.2.2.2.2.2.2.1 (λx=>zeL x)) λyk=>
some yk)) λcc=>
cond cc (some 2) (some 0))
def zcZ (t_0:Train) (state_1:Int):Option ((Option zam)×Bool):=
Zb (Zb (zdm t_0) λy5=>
cond (y5 !=0) (some true) (Zb (zS state_1 0 (w64 ((zq t_0.2.2.2.2.2.2.2.2.2.1)-1))) λy7=>
some (!y7))) λc4=>
cond c4 (some ((none:Option zam),false)) (some ((some ((t_0,state_1,()):zam)),true))
def zbS (p_0:Plan) (rail_1:Int):Option (Int×Int):=
Zb (zdE p_0) λy1=>
Zb (cond (!y1.2) (some true) (Zb y1.1 λp7=>
Zb (zbt p7 ((rail_1,false,()):zH)) λy8=>
some (!y8))) λc5=>
cond c5 (some (0,2)) (Zb y1.1 λpa=>
Zb (idx pa.2.1 rail_1) λxa=>
some (xa,0))
def zdn (p_0:Plan) (way_1:(List zH)) (t_2:Train) (state_3:Int) (stops_4:(List Int)):Option ((Option zav)×Bool):=
Zb (zcZ t_2 state_3) λy1=>
Zb (zbV p_0 way_1) λy2=>
Zb (cond (!y1.2) (some true) (cond (y2.2 !=0) (some true) (Zb (zS (zq stops_4) 2 100) λyb=>
cond (!yb) (some true) (Zb (idx stops_4 0) λxd=>
cond (decide (xd<t_2.2.1)) (some true) (Zb (idx stops_4 (w64 ((zq stops_4)-1))) λxe=>
some (decide (xe>y2.1))))))) λca=>
cond ca (some ((none:Option zav),false)) (Zb (iter (σ:=Int) (τ:=Unit⊕((Option zav)×Bool)) (λsb=>
cond (decide (sb<(zq stops_4))) (Zb (idx stops_4 sb) λxf=>
Zb (idx stops_4 (w64 (sb-1))) λxg=>
cond (decide (xf<=xg)) (some (.inr (.inr ((none:Option zav),false)))) (some (.inl (w64 (sb+1))))) (some (.inr (.inl ())))) big 1) λta=>
alt (λbd=>Zb y1.1 λpa=>
Zb (iter (σ:=(Int×Int×(List Int)×(List Int)×(List Int))) (τ:=((List Int)×(List Int)×(List Int))⊕((Option zav)×Bool×(List Int)×(List Int)×(List Int))) (λsa=>
cond (decide (sa.2.1<(zq way_1))) (Zb (idx way_1 sa.2.1) λxb=>
Zb (zbS p_0 xb.1) λya=>
cond (ya.2 !=0) (some (.inr (.inr ((none:Option zav),false,sa.2.2.2.2,sa.2.2.2.1,sa.2.2.1)))) (Zb (idx p_0.2.1 xb.1) λxa=>
cond xb.2.1 (Zb (zda 8 sa.2.2.2.2 ([(w64 (sa.1+ya.1))])) λxh=>
Zb (zda 8 sa.2.2.2.1 ([xa.2.2.2.1])) λxi=>
Zb (zda 8 sa.2.2.1 ([(w64 (0-xa.2.2.2.2.1))])) λxj=>
some (.inl ((w64 (sa.1+ya.1)),(w64 (sa.2.1+1)),xj,xi,xh))) (Zb (zda 8 sa.2.2.2.2 ([(w64 (sa.1+ya.1))])) λxk=>
Zb (zda 8 sa.2.2.2.1 ([xa.2.2.2.1])) λxl=>
Zb (zda 8 sa.2.2.1 ([xa.2.2.2.2.1])) λxm=>
some (.inl ((w64 (sa.1+ya.1)),(w64 (sa.2.1+1)),xm,xl,xk))))) (some (.inr (.inl (sa.2.2.2.2,sa.2.2.2.1,sa.2.2.1))))) big (0,0,[],[],[])) λtb=>
alt (λba=>some ((some (pa,way_1,ba.1,ba.2.1,ba.2.2,stops_4,())),true)) (λbb=>some (bb.1,bb.2.1)) tb) (λbc=>some (bc.1,bc.2)) ta)
def zY (m_0:zam) (x_1:zb):Option (Int):=
Zb (zcH .i64 x_1.2.1 (w64 (10*m_0.1.1))) λx2=>
some x2
def zcP (x_0:Int):Option (Bool):=
some (x_0 !=x_0)
def zI (x_0:(List Int)) (target_1:Int):Option (Int×Bool):=
Zb (iter (σ:=(Int×Int)) (τ:=Int) (λs6=>
cond (decide (s6.1<s6.2)) (Zb (ziH .u64 (IntKind.u64.wrap (w64 (s6.1+s6.2))) 1) λx9=>
Zb (idx x_0 (w64 x9)) λxa=>
Zb (zaU xa target_1) λya=>
cond ya (some (.inl ((w64 ((w64 x9)+1)),s6.2))) (some (.inl (s6.1,(w64 x9))))) (some (.inr s6.1))) big (0,(zq x_0))) λta=>
Zb (cond (decide (ta<(zq x_0))) (Zb (idx x_0 ta) λxb=>
cond (xb==target_1) (some (ta,true)) (Zb (idx x_0 ta) λxd=>
Zb (zcP xd) λyb=>
cond yb (Zb (zcP target_1) λyc=>
some (ta,yc)) (some (ta,false)))) (some (ta,false))) λca=>
some (ca.1,ca.2)
def zaG (r_0:zav) (x_1:zb):Option (Int):=
Zb (zY r_0.1 x_1) λy2=>
Zb (zI r_0.2.2.1 (w64 (y2+1))) λy3=>
Zb (idx r_0.2.2.2.2.1 (min y3.1 (w64 ((zq r_0.2.2.2.2.1)-1)))) λx5=>
some x5
def za8 (m_0:zam):Option (Int):=
Zb (idx m_0.1.2.2.2.2.2.2.2.2.2.1 m_0.2.1) λx3=>
Zb (zcH .i64 (w64 ((w64 (x3*m_0.1.1))*981)) 100000) λx4=>
some x4
def za2 (m_0:zam) (v_1:Int) (demand_2:Int) (slope_3:Int):Option (Int):=
cond (decide (demand_2<=0)) (some 0) (Zb (zcH .i64 (w64 (m_0.1.2.2.2.1*demand_2)) 4) λx4=>
Zb (za8 m_0) λy5=>
cond (decide (v_1>0)) (Zb (zcH .i64 (w64 (1000*m_0.1.2.2.2.2.2.1)) v_1) λx7=>
some (min (min x4 y5) x7)) (some (min x4 y5)))
def zaR (m_0:zam) (v_1:Int) (demand_2:Int) (slope_3:Int):Option (Int):=
cond (decide (demand_2>=0)) (some 0) (Zb (zcH .i64 (w64 (m_0.1.2.2.2.2.1*(w64 (0-demand_2)))) 4) λx4=>
Zb (za8 m_0) λy5=>
some (min x4 y5))
def zbu (m_0:zam) (v_1:Int) (demand_2:Int) (slope_3:Int):Option (Int):=
Zb (zcH .i64 (w64 (m_0.1.2.2.2.2.2.2.2.1*v_1)) 1000) λx2=>
some (w64 (m_0.1.2.2.2.2.2.2.1+x2))
def zbv (m_0:zam) (v_1:Int) (demand_2:Int) (slope_3:Int):Option (Int):=
Zb (zcH .i64 (w64 ((w64 (m_0.1.1*slope_3))*981)) 100000) λx1=>
some x1
def zb8 (m_0:zam) (v_1:Int) (demand_2:Int) (slope_3:Int):Option (List Int):=
Zb (iter (σ:=(Int×(List Int))) (τ:=(List Int)) (λsa=>
cond (decide (sa.1<4)) (Zb (idx ([(λx=>za2 m_0 x.1 x.2.1 x.2.2),(λx=>zaR m_0 x.1 x.2.1 x.2.2),(λx=>zbu m_0 x.1 x.2.1 x.2.2),(λx=>zbv m_0 x.1 x.2.1 x.2.2)]:(List ((Int×Int×Int)->Option Int))) sa.1) λxa=>
Zb (xa (v_1,demand_2,slope_3)) λya=>
Zb (idx sa.2 sa.1) λxb=>
some (.inl ((w64 (sa.1+1)),(sa.2).set (Int.toNat sa.1) ya))) (some (.inr sa.2))) big (0,(List.replicate 4 (0:Int)))) λta=>
some ta
def zbc (m_0:zam) (x_1:zb):Option (Int):=
Zb (zcH .i64 x_1.1 m_0.1.1) λx2=>
some x2
def zaz (m_0:zam) (x_1:zb) (demand_2:Int) (slope_3:Int):Option (za4×Bool):=
Zb (zbc m_0 x_1) λy2=>
Zb (zb8 m_0 y2 demand_2 slope_3) λy3=>
Zb (idx y3 0) λx5=>
Zb (idx y3 1) λx6=>
Zb (idx y3 2) λx7=>
Zb (idx y3 3) λx8=>
Zb (cond (decide ((w64 (x_1.1+(w64 (100*(w64 ((w64 ((w64 (x5-x6))-x7))-x8))))))<0)) (some true) (cond (x_1.1==0) (some (decide ((w64 ((w64 ((w64 (x5-x6))-x7))-x8))<=0))) (some false))) λca=>
cond ca (Zb (idx y3 0) λxa=>
Zb (idx y3 1) λxb=>
Zb (idx y3 2) λxd=>
Zb (idx y3 3) λxe=>
Zb (idx y3 0) λxf=>
Zb (zcH .i64 (w64 ((w64 ((w64 (xf*0))+(w64 (1000*m_0.1.1))))-1)) (w64 (1000*m_0.1.1))) λxg=>
Zb (idx y3 1) λxh=>
Zb (zcH .i64 (w64 ((w64 (xh*0))*m_0.1.2.2.2.2.2.2.2.2.1)) (w64 (100000*m_0.1.1))) λxi=>
some (((0,(w64 (x_1.2.1+0)),()),((w64 ((w64 (200*xa))*0)),(w64 ((w64 (200*xb))*0)),(w64 ((w64 (200*xd))*0)),(w64 ((w64 (200*xe))*0)),0,(w64 (x_1.1*x_1.1)),()),xg,xi,()),(decide (0<=(w64 (25000*m_0.1.1)))))) (Zb (idx y3 0) λxj=>
Zb (idx y3 1) λxk=>
Zb (idx y3 2) λxl=>
Zb (idx y3 3) λxm=>
Zb (idx y3 0) λxn=>
Zb (zcH .i64 (w64 ((w64 ((w64 (xn*(w64 (x_1.1+(w64 (100*(w64 ((w64 ((w64 (x5-x6))-x7))-x8))))))))+(w64 (1000*m_0.1.1))))-1)) (w64 (1000*m_0.1.1))) λxo=>
Zb (idx y3 1) λxp=>
Zb (zcH .i64 (w64 ((w64 (xp*(w64 (x_1.1+(w64 (100*(w64 ((w64 ((w64 (x5-x6))-x7))-x8))))))))*m_0.1.2.2.2.2.2.2.2.2.1)) (w64 (100000*m_0.1.1))) λxq=>
some ((((w64 (x_1.1+(w64 (100*(w64 ((w64 ((w64 (x5-x6))-x7))-x8)))))),(w64 (x_1.2.1+(w64 (x_1.1+(w64 (100*(w64 ((w64 ((w64 (x5-x6))-x7))-x8)))))))),()),((w64 ((w64 (200*xj))*(w64 (x_1.1+(w64 (100*(w64 ((w64 ((w64 (x5-x6))-x7))-x8)))))))),(w64 ((w64 (200*xk))*(w64 (x_1.1+(w64 (100*(w64 ((w64 ((w64 (x5-x6))-x7))-x8)))))))),(w64 ((w64 (200*xl))*(w64 (x_1.1+(w64 (100*(w64 ((w64 ((w64 (x5-x6))-x7))-x8)))))))),(w64 ((w64 (200*xm))*(w64 (x_1.1+(w64 (100*(w64 ((w64 ((w64 (x5-x6))-x7))-x8)))))))),(w64 ((w64 (10000*(w64 ((w64 ((w64 (x5-x6))-x7))-x8))))*(w64 ((w64 ((w64 (x5-x6))-x7))-x8)))),0,()),xo,xq,()),(decide ((w64 (x_1.1+(w64 (100*(w64 ((w64 ((w64 (x5-x6))-x7))-x8))))))<=(w64 (25000*m_0.1.1))))))
def zb9 (r_0:zav) (x_1:zb):Option (Int):=
Zb (zY r_0.1 x_1) λy2=>
Zb (zI r_0.2.2.1 (w64 ((w64 (y2-r_0.1.1.2.1))+1))) λy3=>
Zb (iter (σ:=(Int×Int)) (τ:=Int) (λs8=>
cond (decide (s8.2<(zq r_0.2.2.1))) (Zb (idx r_0.2.2.2.1 s8.2) λxa=>
Zb (idx r_0.2.2.1 s8.2) λxb=>
cond (decide (xb>=y2)) (some (.inr (min s8.1 xa))) (some (.inl ((min s8.1 xa),(w64 (s8.2+1)))))) (some (.inr s8.1))) big (r_0.1.1.2.2.1,y3.1)) λta=>
some ta
def zbw (r_0:zav) (x_1:zb) (stop_2:Int):Option (Bool):=
Zb (Zb (zY r_0.1 x_1) λya=>
cond (decide (ya<=stop_2)) (Zb (zbc r_0.1 x_1) λyb=>
Zb (zb9 r_0 x_1) λyc=>
some (decide (yb<=yc))) (some false)) λc9=>
some c9
def zaW {σ τ:Type} (step:σ->(zb)->Option (σ⊕τ)) (s_:σ) (p_1:zb) (p_2:zam) (p_3:((zb)->Option (Int))):Option ((σ⊕τ)×zb):=
Zb (iter (σ:=(Int×(σ⊕τ)×Int×Int)) (τ:=((σ⊕τ)×Int×Int)⊕((σ⊕τ)×Int×Int)) (λsa=>
cond (decide (sa.1<36000)) (cond (sa.2.2.1==0) (some (.inr (.inr (sa.2.1,sa.2.2.1,sa.2.2.2)))) (Zb (p_3 (sa.2.2.1,sa.2.2.2,())) λyc=>
Zb (zaz p_2 (sa.2.2.1,sa.2.2.2,()) (-4) yc) λya=>
cond (!ya.2) (some (.inr (.inr (sa.2.1,sa.2.2.1,sa.2.2.2)))) (Zb (goL sa.2.1) λsb=>
Zb (step sb ya.1.1) λyb=>
cond (!(yb).isLeft) (some (.inr (.inr (yb,ya.1.1.1,ya.1.1.2.1)))) (some (.inl ((w64 (sa.1+1)),yb,ya.1.1.1,ya.1.1.2.1)))))) (some (.inr (.inl (sa.2.1,sa.2.2.1,sa.2.2.2))))) big (0,(.inl s_),p_1.1,p_1.2.1)) λta=>
alt (λba=>some (ba.1,(ba.2.1,ba.2.2,()))) (λbb=>some (bb.1,(bb.2.1,bb.2.2,()))) ta
def zbP (m_0:zam) (x_1:zb) (slope_2:((zb)->Option (Int))):Option (zb×zam×((zb)->Option (Int))):=
some (x_1,m_0,slope_2)
def zbW (r_0:zav) (x_1:zb) (stop_2:Int):Option (Bool):=
Zb (zbw r_0 x_1 stop_2) λy2=>
cond (!y2) (some false) (Zb (zbP r_0.1 x_1 (λx=>zaG r_0 x)) λy7=>
Zb (zaW (σ:=(Int×Int)) (τ:=(Int×Int)) (λsa x9=>
Zb (zbw r_0 x9 stop_2) λya=>
cond (!ya) (some (.inr (sa.1,sa.2))) (some (.inl (x9.1,x9.2.1)))) (x_1.1,x_1.2.1) y7.1 y7.2.1 y7.2.2) λta=>
alt (λba=>some (ba.1==0)) (λbb=>some false) ta.1)
def zaJ (r_0:zav) (x_1:zb) (stop_2:Int):Option (za4×Bool):=
Zb (zaG r_0 x_1) λy2=>
Zb (iter (σ:=(Bool×Int×Int×Int×Int×Int×Int×Int×Int×Int×Int×Int)) (τ:=(Bool×Int×Int×Int×Int×Int×Int×Int×Int×Int×Int)) (λsa=>
cond (decide (sa.2.1<9)) (Zb (zaz r_0.1 x_1 (w64 (4-sa.2.1)) y2) λya=>
cond ya.2 (Zb (zbW r_0 ya.1.1 stop_2) λyb=>
cond yb (some (.inr (true,ya.1.1.1,ya.1.1.2.1,ya.1.2.1.1,ya.1.2.1.2.1,ya.1.2.1.2.2.1,ya.1.2.1.2.2.2.1,ya.1.2.1.2.2.2.2.1,ya.1.2.1.2.2.2.2.2.1,ya.1.2.2.1,ya.1.2.2.2.1))) (some (.inl (sa.1,(w64 (sa.2.1+1)),sa.2.2.1,sa.2.2.2.1,sa.2.2.2.2.1,sa.2.2.2.2.2.1,sa.2.2.2.2.2.2.1,sa.2.2.2.2.2.2.2.1,sa.2.2.2.2.2.2.2.2.1,sa.2.2.2.2.2.2.2.2.2.1,sa.2.2.2.2.2.2.2.2.2.2.1,sa.2.2.2.2.2.2.2.2.2.2.2)))) (some (.inl (sa.1,(w64 (sa.2.1+1)),sa.2.2.1,sa.2.2.2.1,sa.2.2.2.2.1,sa.2.2.2.2.2.1,sa.2.2.2.2.2.2.1,sa.2.2.2.2.2.2.2.1,sa.2.2.2.2.2.2.2.2.1,sa.2.2.2.2.2.2.2.2.2.1,sa.2.2.2.2.2.2.2.2.2.2.1,sa.2.2.2.2.2.2.2.2.2.2.2)))) (some (.inr (sa.1,sa.2.2.1,sa.2.2.2.1,sa.2.2.2.2.1,sa.2.2.2.2.2.1,sa.2.2.2.2.2.2.1,sa.2.2.2.2.2.2.2.1,sa.2.2.2.2.2.2.2.2.1,sa.2.2.2.2.2.2.2.2.2.1,sa.2.2.2.2.2.2.2.2.2.2.1,sa.2.2.2.2.2.2.2.2.2.2.2)))) big (false,0,0,0,0,0,0,0,0,0,0,0)) λta=>
some (((ta.2.1,ta.2.2.1,()),(ta.2.2.2.1,ta.2.2.2.2.1,ta.2.2.2.2.2.1,ta.2.2.2.2.2.2.1,ta.2.2.2.2.2.2.2.1,ta.2.2.2.2.2.2.2.2.1,()),ta.2.2.2.2.2.2.2.2.2.1,ta.2.2.2.2.2.2.2.2.2.2,()),ta.1)
def zcA (l_0:(List z5)):Option (z5):=
Zb (iter (σ:=(Int×Int×Int×Int×Int×Int×Int)) (τ:=(Int×Int×Int×Int×Int×Int)) (λs9=>
cond (decide (s9.1<(zq l_0))) (Zb (idx l_0 s9.1) λxa=>
some (.inl ((w64 (s9.1+1)),(w64 (s9.2.1+xa.1)),(w64 (s9.2.2.1+xa.2.1)),(w64 (s9.2.2.2.1+xa.2.2.1)),(w64 (s9.2.2.2.2.1+xa.2.2.2.1)),(w64 (s9.2.2.2.2.2.1+xa.2.2.2.2.1)),(w64 (s9.2.2.2.2.2.2+xa.2.2.2.2.2.1))))) (some (.inr (s9.2.1,s9.2.2.1,s9.2.2.2.1,s9.2.2.2.2.1,s9.2.2.2.2.2.1,s9.2.2.2.2.2.2)))) big (0,0,0,0,0,0,0)) λta=>
some (ta.1,ta.2.1,ta.2.2.1,ta.2.2.2.1,ta.2.2.2.2.1,ta.2.2.2.2.2,())
def zbg (r_0:zav) (x_1:zb) (stop_2:Int):Option (Leg×zb×Bool):=
Zb (iter (σ:=(Int×Int×Int×Int×Int×Int×Int×Int×Int×Int×Int×Int×Int×Int×Int×Int×Int×Int×Int×Int×Int×Int×Int×Int×Int)) (τ:=(Bool×Int×Int×Int×Int×Int×Int×Int×Int×Int×Int×Int×Int×Int×Int×Int×Int×Int×Int×Int×Int×Int×Int×Int×Int)) (λsa=>
Zb (zY r_0.1 (sa.2.2.2.2.2.2.2.2.2.2.2.2.2.2.1,sa.2.2.2.2.2.2.2.2.2.2.2.2.2.2.2.1,())) λye=>
cond (sa.2.2.2.2.2.2.2.2.2.2.2.2.2.2.1==0) (Zb (zS (w64 (stop_2-ye)) 0 1000) λyf=>
cond yf (some (.inr (true,ye,sa.2.2.2.2.2.2.2.2.2.2.2.2.2.2.1,sa.2.2.2.2.2.2.2.2.2.2.2.2.2.2.2.1,sa.2.1,ye,sa.2.2.2.1,sa.2.2.2.2.1,sa.2.2.2.2.2.1,sa.2.2.2.2.2.2.1,sa.2.2.2.2.2.2.2.1,sa.2.2.2.2.2.2.2.2.1,sa.2.2.2.2.2.2.2.2.2.1,sa.2.2.2.2.2.2.2.2.2.2.1,sa.2.1,sa.2.2.2.1,sa.2.2.2.2.1,sa.2.2.2.2.2.1,sa.2.2.2.2.2.2.1,sa.2.2.2.2.2.2.2.1,sa.2.2.2.2.2.2.2.2.1,sa.2.2.2.2.2.2.2.2.2.1,sa.2.2.2.2.2.2.2.2.2.2.1,sa.2.2.2.2.2.2.2.2.2.2.2.2.2.2.1,sa.2.2.2.2.2.2.2.2.2.2.2.2.2.2.2.1))) (cond (sa.1==36000) (some (.inr (false,sa.2.2.1,sa.2.2.2.2.2.2.2.2.2.2.2.2.2.2.1,sa.2.2.2.2.2.2.2.2.2.2.2.2.2.2.2.1,sa.2.1,sa.2.2.1,sa.2.2.2.1,sa.2.2.2.2.1,sa.2.2.2.2.2.1,sa.2.2.2.2.2.2.1,sa.2.2.2.2.2.2.2.1,sa.2.2.2.2.2.2.2.2.1,sa.2.2.2.2.2.2.2.2.2.1,sa.2.2.2.2.2.2.2.2.2.2.1,sa.2.1,sa.2.2.2.1,sa.2.2.2.2.1,sa.2.2.2.2.2.1,sa.2.2.2.2.2.2.1,sa.2.2.2.2.2.2.2.1,sa.2.2.2.2.2.2.2.2.1,sa.2.2.2.2.2.2.2.2.2.1,sa.2.2.2.2.2.2.2.2.2.2.1,sa.2.2.2.2.2.2.2.2.2.2.2.2.2.2.1,sa.2.2.2.2.2.2.2.2.2.2.2.2.2.2.2.1))) (Zb (zaJ r_0 (sa.2.2.2.2.2.2.2.2.2.2.2.2.2.2.1,sa.2.2.2.2.2.2.2.2.2.2.2.2.2.2.2.1,()) stop_2) λya=>
cond (!ya.2) (some (.inr (false,sa.2.2.1,sa.2.2.2.2.2.2.2.2.2.2.2.2.2.2.1,sa.2.2.2.2.2.2.2.2.2.2.2.2.2.2.2.1,sa.2.1,sa.2.2.1,sa.2.2.2.1,sa.2.2.2.2.1,sa.2.2.2.2.2.1,sa.2.2.2.2.2.2.1,sa.2.2.2.2.2.2.2.1,sa.2.2.2.2.2.2.2.2.1,sa.2.2.2.2.2.2.2.2.2.1,sa.2.2.2.2.2.2.2.2.2.2.1,sa.2.1,sa.2.2.2.1,sa.2.2.2.2.1,sa.2.2.2.2.2.1,sa.2.2.2.2.2.2.1,sa.2.2.2.2.2.2.2.1,sa.2.2.2.2.2.2.2.2.1,sa.2.2.2.2.2.2.2.2.2.1,sa.2.2.2.2.2.2.2.2.2.2.1,sa.2.2.2.2.2.2.2.2.2.2.2.2.2.2.1,sa.2.2.2.2.2.2.2.2.2.2.2.2.2.2.2.1))) (cond (decide (ya.1.1.2.1>10000000000000000)) (some (.inr (false,sa.2.2.1,sa.2.2.2.2.2.2.2.2.2.2.2.2.2.2.1,sa.2.2.2.2.2.2.2.2.2.2.2.2.2.2.2.1,sa.2.1,sa.2.2.1,sa.2.2.2.1,sa.2.2.2.2.1,sa.2.2.2.2.2.1,sa.2.2.2.2.2.2.1,sa.2.2.2.2.2.2.2.1,sa.2.2.2.2.2.2.2.2.1,sa.2.2.2.2.2.2.2.2.2.1,sa.2.2.2.2.2.2.2.2.2.2.1,sa.2.1,sa.2.2.2.1,sa.2.2.2.2.1,sa.2.2.2.2.2.1,sa.2.2.2.2.2.2.1,sa.2.2.2.2.2.2.2.1,sa.2.2.2.2.2.2.2.2.1,sa.2.2.2.2.2.2.2.2.2.1,sa.2.2.2.2.2.2.2.2.2.2.1,sa.2.2.2.2.2.2.2.2.2.2.2.2.2.2.1,sa.2.2.2.2.2.2.2.2.2.2.2.2.2.2.2.1))) (Zb (zcA ([(sa.2.2.2.1,sa.2.2.2.2.1,sa.2.2.2.2.2.1,sa.2.2.2.2.2.2.1,sa.2.2.2.2.2.2.2.1,sa.2.2.2.2.2.2.2.2.1,()),ya.1.2.1])) λyc=>
some (.inl ((w64 (sa.1+1)),(w64 (sa.2.1+100)),sa.2.2.1,yc.1,yc.2.1,yc.2.2.1,yc.2.2.2.1,yc.2.2.2.2.1,yc.2.2.2.2.2.1,(max sa.2.2.2.2.2.2.2.2.2.1 ya.1.2.2.1),(max sa.2.2.2.2.2.2.2.2.2.2.1 ya.1.2.2.2.1),sa.2.2.2.2.2.2.2.2.2.2.2.1,sa.2.2.2.2.2.2.2.2.2.2.2.2.1,sa.2.2.2.2.2.2.2.2.2.2.2.2.2.1,ya.1.1.1,ya.1.1.2.1,sa.2.2.2.2.2.2.2.2.2.2.2.2.2.2.2.2.1,sa.2.2.2.2.2.2.2.2.2.2.2.2.2.2.2.2.2.1,sa.2.2.2.2.2.2.2.2.2.2.2.2.2.2.2.2.2.2.1,sa.2.2.2.2.2.2.2.2.2.2.2.2.2.2.2.2.2.2.2.1,sa.2.2.2.2.2.2.2.2.2.2.2.2.2.2.2.2.2.2.2.2.1,sa.2.2.2.2.2.2.2.2.2.2.2.2.2.2.2.2.2.2.2.2.2.1,sa.2.2.2.2.2.2.2.2.2.2.2.2.2.2.2.2.2.2.2.2.2.2.1,sa.2.2.2.2.2.2.2.2.2.2.2.2.2.2.2.2.2.2.2.2.2.2.2.1,sa.2.2.2.2.2.2.2.2.2.2.2.2.2.2.2.2.2.2.2.2.2.2.2.2))))))) (cond (sa.1==36000) (some (.inr (false,sa.2.2.1,sa.2.2.2.2.2.2.2.2.2.2.2.2.2.2.1,sa.2.2.2.2.2.2.2.2.2.2.2.2.2.2.2.1,sa.2.1,sa.2.2.1,sa.2.2.2.1,sa.2.2.2.2.1,sa.2.2.2.2.2.1,sa.2.2.2.2.2.2.1,sa.2.2.2.2.2.2.2.1,sa.2.2.2.2.2.2.2.2.1,sa.2.2.2.2.2.2.2.2.2.1,sa.2.2.2.2.2.2.2.2.2.2.1,sa.2.1,sa.2.2.2.1,sa.2.2.2.2.1,sa.2.2.2.2.2.1,sa.2.2.2.2.2.2.1,sa.2.2.2.2.2.2.2.1,sa.2.2.2.2.2.2.2.2.1,sa.2.2.2.2.2.2.2.2.2.1,sa.2.2.2.2.2.2.2.2.2.2.1,sa.2.2.2.2.2.2.2.2.2.2.2.2.2.2.1,sa.2.2.2.2.2.2.2.2.2.2.2.2.2.2.2.1))) (Zb (zaJ r_0 (sa.2.2.2.2.2.2.2.2.2.2.2.2.2.2.1,sa.2.2.2.2.2.2.2.2.2.2.2.2.2.2.2.1,()) stop_2) λyb=>
cond (!yb.2) (some (.inr (false,sa.2.2.1,sa.2.2.2.2.2.2.2.2.2.2.2.2.2.2.1,sa.2.2.2.2.2.2.2.2.2.2.2.2.2.2.2.1,sa.2.1,sa.2.2.1,sa.2.2.2.1,sa.2.2.2.2.1,sa.2.2.2.2.2.1,sa.2.2.2.2.2.2.1,sa.2.2.2.2.2.2.2.1,sa.2.2.2.2.2.2.2.2.1,sa.2.2.2.2.2.2.2.2.2.1,sa.2.2.2.2.2.2.2.2.2.2.1,sa.2.1,sa.2.2.2.1,sa.2.2.2.2.1,sa.2.2.2.2.2.1,sa.2.2.2.2.2.2.1,sa.2.2.2.2.2.2.2.1,sa.2.2.2.2.2.2.2.2.1,sa.2.2.2.2.2.2.2.2.2.1,sa.2.2.2.2.2.2.2.2.2.2.1,sa.2.2.2.2.2.2.2.2.2.2.2.2.2.2.1,sa.2.2.2.2.2.2.2.2.2.2.2.2.2.2.2.1))) (cond (decide (yb.1.1.2.1>10000000000000000)) (some (.inr (false,sa.2.2.1,sa.2.2.2.2.2.2.2.2.2.2.2.2.2.2.1,sa.2.2.2.2.2.2.2.2.2.2.2.2.2.2.2.1,sa.2.1,sa.2.2.1,sa.2.2.2.1,sa.2.2.2.2.1,sa.2.2.2.2.2.1,sa.2.2.2.2.2.2.1,sa.2.2.2.2.2.2.2.1,sa.2.2.2.2.2.2.2.2.1,sa.2.2.2.2.2.2.2.2.2.1,sa.2.2.2.2.2.2.2.2.2.2.1,sa.2.1,sa.2.2.2.1,sa.2.2.2.2.1,sa.2.2.2.2.2.1,sa.2.2.2.2.2.2.1,sa.2.2.2.2.2.2.2.1,sa.2.2.2.2.2.2.2.2.1,sa.2.2.2.2.2.2.2.2.2.1,sa.2.2.2.2.2.2.2.2.2.2.1,sa.2.2.2.2.2.2.2.2.2.2.2.2.2.2.1,sa.2.2.2.2.2.2.2.2.2.2.2.2.2.2.2.1))) (Zb (zcA ([(sa.2.2.2.1,sa.2.2.2.2.1,sa.2.2.2.2.2.1,sa.2.2.2.2.2.2.1,sa.2.2.2.2.2.2.2.1,sa.2.2.2.2.2.2.2.2.1,()),yb.1.2.1])) λyd=>
some (.inl ((w64 (sa.1+1)),(w64 (sa.2.1+100)),sa.2.2.1,yd.1,yd.2.1,yd.2.2.1,yd.2.2.2.1,yd.2.2.2.2.1,yd.2.2.2.2.2.1,(max sa.2.2.2.2.2.2.2.2.2.1 yb.1.2.2.1),(max sa.2.2.2.2.2.2.2.2.2.2.1 yb.1.2.2.2.1),sa.2.2.2.2.2.2.2.2.2.2.2.1,sa.2.2.2.2.2.2.2.2.2.2.2.2.1,sa.2.2.2.2.2.2.2.2.2.2.2.2.2.1,yb.1.1.1,yb.1.1.2.1,sa.2.2.2.2.2.2.2.2.2.2.2.2.2.2.2.2.1,sa.2.2.2.2.2.2.2.2.2.2.2.2.2.2.2.2.2.1,sa.2.2.2.2.2.2.2.2.2.2.2.2.2.2.2.2.2.2.1,sa.2.2.2.2.2.2.2.2.2.2.2.2.2.2.2.2.2.2.2.1,sa.2.2.2.2.2.2.2.2.2.2.2.2.2.2.2.2.2.2.2.2.1,sa.2.2.2.2.2.2.2.2.2.2.2.2.2.2.2.2.2.2.2.2.2.1,sa.2.2.2.2.2.2.2.2.2.2.2.2.2.2.2.2.2.2.2.2.2.2.1,sa.2.2.2.2.2.2.2.2.2.2.2.2.2.2.2.2.2.2.2.2.2.2.2.1,sa.2.2.2.2.2.2.2.2.2.2.2.2.2.2.2.2.2.2.2.2.2.2.2.2))))))) big (0,0,0,0,0,0,0,0,0,0,0,0,0,0,x_1.1,x_1.2.1,0,0,0,0,0,0,0,0,0)) λta=>
some ((ta.2.2.2.2.1,ta.2.2.2.2.2.1,(ta.2.2.2.2.2.2.1,ta.2.2.2.2.2.2.2.1,ta.2.2.2.2.2.2.2.2.1,ta.2.2.2.2.2.2.2.2.2.1,ta.2.2.2.2.2.2.2.2.2.2.1,ta.2.2.2.2.2.2.2.2.2.2.2.1,()),ta.2.2.2.2.2.2.2.2.2.2.2.2.1,ta.2.2.2.2.2.2.2.2.2.2.2.2.2.1,()),(ta.2.2.1,ta.2.2.2.1,()),ta.1)
def zbT (p_0:Plan) (way_1:(List zH)) (t_2:Train) (state_3:Int) (stops_4:(List Int)):Option ((List Leg)×Int):=
Zb (zdn p_0 way_1 t_2 state_3 stops_4) λy1=>
cond (!y1.2) (some ([],2)) (Zb (idx stops_4 0) λx5=>
Zb (slO stops_4 1 (zq stops_4)) λx7=>
Zb (iter (σ:=((List Leg)×Int×Int×Int)) (τ:=((List Leg)×Int×Int)⊕((List Leg)×Int×Int×Int)) (λsa=>
cond (decide (sa.2.1<(zq x7))) (Zb (idx x7 sa.2.1) λxa=>
Zb y1.1 λpa=>
Zb (zbg pa (sa.2.2.1,sa.2.2.2,()) xa) λya=>
cond (!ya.2.2) (some (.inr (.inr ([],4,sa.2.2.1,sa.2.2.2)))) (cond (decide (sa.2.2.2>10000000000000000)) (some (.inr (.inr ([],4,sa.2.2.1,sa.2.2.2)))) (Zb (zda 80 sa.1 ([ya.1])) λxb=>
some (.inl (xb,(w64 (sa.2.1+1)),ya.2.1.1,ya.2.1.2.1))))) (some (.inr (.inl (sa.1,sa.2.2.1,sa.2.2.2))))) big ([],0,0,(w64 ((w64 (10*t_2.1))*x5)))) λta=>
alt (λbb=>some (bb.1,0)) (λba=>some (ba.1,ba.2.1)) ta)
def zaK (l_0:(List Leg)) (field_1:((Leg)->Option (Int))):Option (List Int):=
Zb (iter (σ:=((List Int)×Int)) (τ:=(List Int)) (λs7=>
cond (decide (s7.2<(zq l_0))) (Zb (idx l_0 s7.2) λxa=>
Zb (field_1 xa) λya=>
Zb (zda 8 s7.1 ([ya])) λxb=>
some (.inl (xb,(w64 (s7.2+1))))) (some (.inr s7.1))) big ([],0)) λta=>
some ta
def zem (x_0:Leg):Option (Int):=
some x_0.1
def zbI (p_0:Plan) (way_1:(List zH)) (t_2:Train) (state_3:Int) (stops_4:(List Int)):Option ((List Int)×Int):=
Zb (zbT p_0 way_1 t_2 state_3 stops_4) λy1=>
cond (y1.2 !=0) (some ([],y1.2)) (Zb (zaK y1.1 (λx=>zem x)) λy4=>
some (y4,0))
def za9 (p_0:Plan) (l_1:Line) (c_2:Course):Option ((List Int)×(List Int)×Bool):=
Zb (zbV p_0 c_2.1) λy1=>
Zb (cond (y1.2 !=0) (some true) (Zb (zO (zq c_2.2.1) 2 60) λyb=>
cond (!yb) (some true) (cond ((zq c_2.2.2.1)!=(zq c_2.2.1)) (some true) (Zb (idx c_2.2.2.1 0) λxd=>
cond (xd !=0) (some true) (Zb (idx c_2.2.2.1 (w64 ((zq c_2.2.1)-1))) λxe=>
some (xe !=0)))))) λc9=>
cond c9 (some ([],[],false)) (Zb (iter (σ:=Int) (τ:=Unit⊕((List Int)×(List Int)×Bool)) (λsb=>
cond (decide (sb<(zq c_2.2.1))) (Zb (idx c_2.2.1 sb) λxa=>
Zb (zO xa 1 y1.1) λyc=>
cond (!yc) (some (.inr (.inr ([],[],false)))) (cond (decide (sb>0)) (Zb (idx c_2.2.1 (w64 (sb-1))) λxf=>
cond (decide (xa<=xf)) (some (.inr (.inr ([],[],false)))) (Zb (idx c_2.2.2.1 sb) λxg=>
Zb (zO xg 0 600) λyd=>
cond (!yd) (some (.inr (.inr ([],[],false)))) (some (.inl (w64 (sb+1)))))) (Zb (idx c_2.2.2.1 sb) λxh=>
Zb (zO xh 0 600) λye=>
cond (!ye) (some (.inr (.inr ([],[],false)))) (some (.inl (w64 (sb+1))))))) (some (.inr (.inl ())))) big 0) λtb=>
alt (λbb=>Zb (zbI p_0 c_2.1 l_1.2.2.1 l_1.2.2.2.1 c_2.2.1) λya=>
Zb (cond (ya.2 !=0) (some true) (some ((zq ya.1)!=(w64 ((zq c_2.2.1)-1))))) λca=>
cond ca (some ([],[],false)) (Zb (mkO 8 (zq c_2.2.1) (0:Int)) λxi=>
Zb (mkO 8 (zq c_2.2.1) (0:Int)) λxj=>
Zb (iter (σ:=(Int×(List Int)×(List Int))) (τ:=((List Int)×(List Int))) (λsa=>
cond (decide (sa.1<(zq ya.1))) (Zb (idx ya.1 sa.1) λxk=>
Zb (zcH .i64 (w64 (xk+999)) 1000) λxb=>
Zb (idx sa.2.2 (w64 (sa.1+1))) λxp=>
Zb (idx sa.2.1 sa.1) λxl=>
Zb (idx ((sa.2.2).set (Int.toNat (w64 (sa.1+1))) (max 1 xb)) (w64 (sa.1+1))) λxm=>
Zb (idx c_2.2.2.1 (w64 (sa.1+1))) λxn=>
Zb (idx sa.2.1 (w64 (sa.1+1))) λxq=>
some (.inl ((w64 (sa.1+1)),(sa.2.1).set (Int.toNat (w64 (sa.1+1))) (w64 ((w64 (xl+xm))+xn)),(sa.2.2).set (Int.toNat (w64 (sa.1+1))) (max 1 xb)))) (some (.inr (sa.2.1,sa.2.2)))) big (0,xj,xi)) λta=>
Zb (idx ta.1 (w64 ((zq c_2.2.1)-1))) λxo=>
some (ta.2,ta.1,(decide (xo<=50000))))) (λba=>some (ba.1,ba.2.1,ba.2.2)) tb)
def zbz (p_0:Plan) (l_1:Line):Option ((Option zl)×Bool):=
Zb (Zb (zdb p_0) λy5=>
cond (y5 !=0) (some true) (Zb (zO l_1.2.2.2.2.1 0 3600) λy7=>
some (!y7))) λc4=>
cond c4 (some ((none:Option zl),false)) (Zb (zbs l_1) λyb=>
Zb (iter (σ:=(Int×(List Int)×(List Int)×(List Int)×(List Int))) (τ:=((List Int)×(List Int)×(List Int)×(List Int))⊕((Option zl)×Bool×(List Int)×(List Int)×(List Int)×(List Int))) (λsa=>
cond (decide (sa.1<2)) (Zb (idx yb sa.1) λxa=>
Zb (za9 p_0 l_1 xa) λya=>
Zb (idx [(),()] sa.1) λxb=>
Zb (idx [(),()] sa.1) λxd=>
cond (!ya.2.2) (some (.inr (.inr ((none:Option zl),false,cond (sa.1==0) ya.1 sa.2.1,cond (sa.1==1) ya.1 sa.2.2.1,cond (sa.1==0) ya.2.1 sa.2.2.2.1,cond (sa.1==1) ya.2.1 sa.2.2.2.2)))) (some (.inl ((w64 (sa.1+1)),cond (sa.1==0) ya.1 sa.2.1,cond (sa.1==1) ya.1 sa.2.2.1,cond (sa.1==0) ya.2.1 sa.2.2.2.1,cond (sa.1==1) ya.2.1 sa.2.2.2.2)))) (some (.inr (.inl (sa.2.1,sa.2.2.1,sa.2.2.2.1,sa.2.2.2.2))))) big (0,[],[],[],[])) λta=>
alt (λba=>some ((some (((l_1.1.1,l_1.1.2.1,l_1.1.2.2.1,()),(l_1.2.1.1,l_1.2.1.2.1,l_1.2.1.2.2.1,()),(l_1.2.2.1.1,l_1.2.2.1.2.1,l_1.2.2.1.2.2.1,l_1.2.2.1.2.2.2.1,l_1.2.2.1.2.2.2.2.1,l_1.2.2.1.2.2.2.2.2.1,l_1.2.2.1.2.2.2.2.2.2.1,l_1.2.2.1.2.2.2.2.2.2.2.1,l_1.2.2.1.2.2.2.2.2.2.2.2.1,l_1.2.2.1.2.2.2.2.2.2.2.2.2.1,()),l_1.2.2.2.1,l_1.2.2.2.2.1,()),[ba.1,ba.2.1],[ba.2.2.1,ba.2.2.2],())),true)) (λbb=>some (bb.1,bb.2.1)) ta)
def zdo (home_0:Bool):Option (Int):=
cond home_0 (some 1) (some 0)
def z9 (p_0:Plan) (l_1:Line) (home_2:Bool):Option ((List Int)×Int):=
Zb (zbz p_0 l_1) λy1=>
cond (!y1.2) (some ([],2)) (Zb (zdo home_2) λy6=>
Zb y1.1 λp7=>
Zb (idx p7.2.2.1 y6) λx8=>
some (x8,0))
def zt (r_0:zl) (side_1:Int):Option (Int):=
Zb (idx r_0.2.2.1 side_1) λx4=>
Zb (idx r_0.2.2.1 side_1) λx5=>
Zb (idx x4 (w64 ((zq x5)-1))) λx6=>
some x6
def zaN (r_0:zl):Option (Int):=
Zb (zt r_0 0) λy3=>
Zb (zt r_0 1) λy4=>
some (w64 ((w64 (y3+y4))+(w64 (2*r_0.1.2.2.2.2.1))))
def zcp (p_0:Plan) (l_1:Line):Option (Int×Int):=
Zb (zbz p_0 l_1) λy1=>
cond (!y1.2) (some (0,2)) (Zb y1.1 λp3=>
Zb (zaN p3) λy4=>
some (y4,0))
def zaE (r_0:zl) (headway_1:Int):Option (Int):=
Zb (zaN r_0) λy1=>
Zb (zcH .i64 (w64 ((w64 (y1+headway_1))-1)) headway_1) λx2=>
some x2
def zaX (p_0:Plan) (l_1:Line) (headway_2:Int):Option (Int×Int):=
Zb (zbz p_0 l_1) λy1=>
Zb (cond (!y1.2) (some true) (Zb (zO headway_2 30 7200) λy6=>
some (!y6))) λc4=>
cond c4 (some (0,2)) (Zb y1.1 λp8=>
Zb (zaE p8 headway_2) λy9=>
some (y9,0))
def zdp (length_0:Int):Option (Plan×Line):=
Zb (zcH .i64 length_0 2) λx5=>
Zb (zcH .i64 length_0 2) λx7=>
some ((([(((0,0,()),1,[((0,false,()):zk)],0,()):zb4),((((length_0,0,()):Spot),1,[((0,true,()):zk)],0,()):zb4)],[((0,1,[],8000,0,()):Rail)],()):Plan),(((([((0,false,()):zH)],[1000,x5,length_0],[0,20,0],()):Course),(([((0,true,()):zH)],[1000,x7,length_0],[0,10,0],()):Course),((1000,1000,8000,2000,2000,1000000,0,0,0,[1000],()):Train),0,30,()):Line))
def zca :Option (Bool):=
Zb (zdp 21000) λy1=>
Zb (zbI y1.1 y1.2.1.1 y1.2.2.2.1 0 y1.2.1.2.1) λy4=>
Zb (z9 y1.1 y1.2 false) λy6=>
Zb (z9 y1.1 y1.2 true) λy7=>
Zb (zcp y1.1 y1.2) λy8=>
Zb (cond (y4.2 !=0) (some true) (cond (y6.2 !=0) (some true) (cond (y7.2 !=0) (some true) (cond (y8.2 !=0) (some true) (cond ((zq y4.1)!=2) (some true) (cond ((zq y6.1)!=3) (some true) (some ((zq y7.1)!=3)))))))) λca=>
cond ca (some false) (Zb (idx y4.1 0) λxb=>
Zb (zcH .i64 (w64 (xb+999)) 1000) λxa=>
Zb (idx y4.1 1) λxd=>
Zb (zcH .i64 (w64 (xd+999)) 1000) λxe=>
Zb (zaX y1.1 y1.2 y8.1) λya=>
Zb (zaX y1.1 y1.2 (w64 (y8.1-1))) λyb=>
Zb (Zb (idx y6.1 0) λxf=>
cond (xf==0) (Zb (idx y6.1 1) λxg=>
cond (xg==(w64 (xa+20))) (Zb (idx y6.1 2) λxh=>
cond (xh==(w64 ((w64 (xa+xe))+20))) (Zb (idx y6.1 2) λxi=>
Zb (idx y7.1 2) λxj=>
cond (y8.1==(w64 ((w64 (xi+xj))+60))) (cond (ya.2==0) (cond (yb.2==0) (cond (ya.1==1) (some (yb.1==2)) (some false)) (some false)) (some false)) (some false)) (some false)) (some false)) (some false)) λcc=>
some cc)
def zcK (n_0:Int) (low_1:Int) (high_2:Int):Option (Bool):=
Zb (cond (decide (n_0>=low_1)) (some (decide (n_0<=high_2))) (some false)) λc2=>
some c2
def zen (l_0:Line) (home_1:Bool):Option (Course):=
cond home_1 (some l_0.2.1) (some l_0.1)
def zeB (p_0:Plan) (m_1:zH):Option (Bool):=
Zb (zaa m_1.1 0 (w64 ((zq p_0.2.1)-1))) λy1=>
some y1
def zfg (m_0:zH):Option (zk):=
some ((m_0.1,(!m_0.2.1),()):zk)
def zdc (n_0:zb4) (e_1:zk):Option (Int):=
Zb (iter (σ:=Int) (τ:=Unit⊕(Int)) (λs5=>
cond (decide (s5<(zq n_0.2.2.1))) (Zb (idx n_0.2.2.1 s5) λx9=>
cond (x9==e_1) (some (.inr (.inr s5))) (some (.inl (w64 (s5+1))))) (some (.inr (.inl ())))) big 0) λta=>
alt (λbb=>some (-1)) (λba=>some ba) ta
def zg6 (m_0:zH):Option (zk):=
some ((m_0.1,m_0.2.1,()):zk)
def zeC (n_0:zb4) (a_1:Int) (b_2:Int):Option (Bool):=
cond (n_0.2.1==2) (some (a_1 !=b_2)) (cond (n_0.2.1==3) (Zb (cond (a_1 !=b_2) (Zb (zps (w64 (a_1+b_2)) 2) λx7=>
some (x7==0)) (some false)) λc5=>
some c5) (cond (n_0.2.1==4) (Zb (cond (a_1==0) (cond (decide (b_2>0)) (some true) (cond (decide (a_1>0)) (some (b_2==0)) (some false))) (cond (decide (a_1>0)) (some (b_2==0)) (some false))) λca=>
some ca) (cond (n_0.2.1==5) (Zb (cond (a_1==0) (cond (b_2==n_0.2.2.2.1) (some true) (cond (decide (a_1>0)) (some (b_2==0)) (some false))) (cond (decide (a_1>0)) (some (b_2==0)) (some false))) λcc=>
some cc) (cond (n_0.2.1==6) (Zb (cond (a_1==0) (cond (b_2==n_0.2.2.2.1) (some true) (cond (a_1==n_0.2.2.2.1) (some (b_2==0)) (some false))) (cond (a_1==n_0.2.2.2.1) (some (b_2==0)) (some false))) λcd=>
some cd) (some false)))))
def zcq (p_0:Plan) (m_1:zH) (n_2:zH):Option (Bool):=
Zb (zfg m_1) λy3=>
Zb (ze1 p_0 y3) λy4=>
Zb (idx p_0.1 y4) λx5=>
Zb (zfg m_1) λyc=>
Zb (zdc x5 yc) λya=>
Zb (zg6 n_2) λyd=>
Zb (zdc x5 yd) λyb=>
Zb (cond (decide (ya>=0)) (cond (decide (yb>=0)) (Zb (zeC x5 ya yb) λye=>
some ye) (some false)) (some false)) λca=>
some ca
def zeg (p_0:Plan) (l_1:(List zH)):Option (Bool):=
Zb (iter (σ:=Int) (τ:=Unit⊕(Bool)) (λsa=>
cond (decide (sa<(zq l_1))) (Zb (idx l_1 sa) λxa=>
Zb (zeB p_0 xa) λya=>
cond (!ya) (some (.inr (.inr false))) (cond (decide (sa>0)) (Zb (idx l_1 (w64 (sa-1))) λxb=>
Zb (idx l_1 sa) λxd=>
Zb (zcq p_0 xb xd) λyb=>
cond (!yb) (some (.inr (.inr false))) (some (.inl (w64 (sa+1))))) (some (.inl (w64 (sa+1)))))) (some (.inr (.inl ())))) big 0) λta=>
alt (λbb=>Zb (zaa (zq l_1) 1 2000) λyc=>
some yc) (λba=>some ba) ta
def zbX (p_0:Plan) (l_1:(List zH)):Option (Int):=
Zb (iter (σ:=(Int×Int)) (τ:=Int) (λs6=>
cond (decide (s6.2<(zq l_1))) (Zb (idx l_1 s6.2) λxa=>
Zb (zaB p_0 xa.1) λya=>
some (.inl ((w64 (s6.1+ya)),(w64 (s6.2+1))))) (some (.inr s6.1))) big (0,0)) λta=>
some ta
def zbd (x_0:Int) (low_1:Int) (high_2:Int):Option (Bool):=
Zb (cond (decide (x_0>=low_1)) (some (decide (x_0<=high_2))) (some false)) λc2=>
some c2
def zdW (t_0:Train):Option (Bool):=
Zb (Zb (zbd t_0.1 1000 80000) λya=>
cond (!ya) (some true) (Zb (zbd t_0.2.1 1 60000) λyb=>
cond (!yb) (some true) (Zb (zbd t_0.2.2.1 1 25000) λyc=>
cond (!yc) (some true) (Zb (zbd t_0.2.2.2.1 1 200000) λyd=>
cond (!yd) (some true) (Zb (zbd t_0.2.2.2.2.1 1 200000) λye=>
cond (!ye) (some true) (Zb (zbd t_0.2.2.2.2.2.1 1 2000000) λyf=>
cond (!yf) (some true) (Zb (zbd t_0.2.2.2.2.2.2.1 0 100000) λyg=>
cond (!yg) (some true) (Zb (zbd t_0.2.2.2.2.2.2.2.1 0 10000) λyh=>
cond (!yh) (some true) (Zb (zbd t_0.2.2.2.2.2.2.2.2.1 0 100) λyi=>
cond (!yi) (some true) (Zb (zbd (zq t_0.2.2.2.2.2.2.2.2.2.1) 1 8) λyj=>
some (!yj))))))))))) λca=>
cond ca (some false) (Zb (iter (σ:=Int) (τ:=Unit⊕(Bool)) (λsa=>
cond (decide (sa<(zq t_0.2.2.2.2.2.2.2.2.2.1))) (Zb (idx t_0.2.2.2.2.2.2.2.2.2.1 sa) λxa=>
Zb (zbd xa 1 1000) λyk=>
cond (!yk) (some (.inr (.inr false))) (some (.inl (w64 (sa+1))))) (some (.inr (.inl ())))) big 0) λta=>
alt (λbb=>some true) (λba=>some ba) ta)
def zdX (p_0:Plan) (way_1:(List zH)) (t_2:Train) (state_3:Int) (stops_4:(List Int)):Option (Bool):=
Zb (Zb (zcD p_0) λya=>
cond (!ya) (some true) (Zb (zeg p_0 way_1) λyb=>
cond (!yb) (some true) (Zb (zdW t_2) λyc=>
cond (!yc) (some true) (Zb (zbd state_3 0 (w64 ((zq t_2.2.2.2.2.2.2.2.2.2.1)-1))) λyd=>
cond (!yd) (some true) (Zb (zbd (zq stops_4) 2 100) λye=>
cond (!ye) (some true) (Zb (idx stops_4 0) λxa=>
some (decide (xa<t_2.2.1)))))))) λca=>
cond ca (some false) (Zb (iter (σ:=Int) (τ:=Unit⊕(Bool)) (λsa=>
cond (decide (sa<(zq stops_4))) (Zb (idx stops_4 sa) λxb=>
Zb (idx stops_4 (w64 (sa-1))) λxd=>
cond (decide (xb<=xd)) (some (.inr (.inr false))) (some (.inl (w64 (sa+1))))) (some (.inr (.inl ())))) big 1) λta=>
alt (λbb=>Zb (idx stops_4 (w64 ((zq stops_4)-1))) λxe=>
Zb (zbX p_0 way_1) λyf=>
some (decide (xe<=yf))) (λba=>some ba) ta)
def zL (t_0:Train) (x_1:zb):Option (Int):=
Zb (zcH .i64 x_1.2.1 (w64 (10*t_0.1))) λx1=>
some x1
def za0 (r_0:z8) (place_1:Int):Option (Int):=
Zb (iter (σ:=(Int×Int)) (τ:=Unit⊕(Int)) (λsa=>
cond (decide (sa.2<(zq r_0.2.1))) (Zb (idx r_0.2.1 sa.2) λxa=>
Zb (zaB r_0.1 xa.1) λya=>
cond (decide (place_1<(w64 (sa.1+ya)))) (Zb (idx r_0.2.1 sa.2) λxb=>
cond xb.2.1 (Zb (idx r_0.2.1 sa.2) λxd=>
Zb (idx r_0.1.2.1 xd.1) λxe=>
some (.inr (.inr (w64 (0-xe.2.2.2.2.1))))) (Zb (idx r_0.2.1 sa.2) λxf=>
Zb (idx r_0.1.2.1 xf.1) λxg=>
some (.inr (.inr xg.2.2.2.2.1)))) (cond (sa.2==(w64 ((zq r_0.2.1)-1))) (Zb (idx r_0.2.1 sa.2) λxh=>
cond xh.2.1 (Zb (idx r_0.2.1 sa.2) λxi=>
Zb (idx r_0.1.2.1 xi.1) λxj=>
some (.inr (.inr (w64 (0-xj.2.2.2.2.1))))) (Zb (idx r_0.2.1 sa.2) λxk=>
Zb (idx r_0.1.2.1 xk.1) λxl=>
some (.inr (.inr xl.2.2.2.2.1)))) (some (.inl ((w64 (sa.1+ya)),(w64 (sa.2+1))))))) (some (.inr (.inl ())))) big (0,0)) λta=>
alt (λbb=>some 0) (λba=>some ba) ta
def zdq (t_0:Train) (speed_1:Int) (demand_2:Int) (slope_3:Int) (state_4:Int):Option (Int×Int×Int×Int):=
Zb (idx t_0.2.2.2.2.2.2.2.2.2.1 state_4) λx3=>
Zb (zcH .i64 (w64 ((w64 (x3*t_0.1))*981)) 100000) λx4=>
cond (decide (demand_2>0)) (Zb (zcH .i64 (w64 (t_0.2.2.2.1*demand_2)) 4) λx6=>
cond (decide (speed_1>0)) (Zb (zcH .i64 (w64 (1000*t_0.2.2.2.2.2.1)) speed_1) λx8=>
cond (decide (demand_2<0)) (Zb (zcH .i64 (w64 (t_0.2.2.2.2.1*(w64 (0-demand_2)))) 4) λxa=>
Zb (zcH .i64 (w64 (t_0.2.2.2.2.2.2.2.1*speed_1)) 1000) λxb=>
Zb (zcH .i64 (w64 ((w64 (t_0.1*slope_3))*981)) 100000) λxd=>
some ((min (min x6 x4) x8),(min xa x4),(w64 (t_0.2.2.2.2.2.2.1+xb)),xd)) (Zb (zcH .i64 (w64 (t_0.2.2.2.2.2.2.2.1*speed_1)) 1000) λxe=>
Zb (zcH .i64 (w64 ((w64 (t_0.1*slope_3))*981)) 100000) λxf=>
some ((min (min x6 x4) x8),0,(w64 (t_0.2.2.2.2.2.2.1+xe)),xf))) (cond (decide (demand_2<0)) (Zb (zcH .i64 (w64 (t_0.2.2.2.2.1*(w64 (0-demand_2)))) 4) λxg=>
Zb (zcH .i64 (w64 (t_0.2.2.2.2.2.2.2.1*speed_1)) 1000) λxh=>
Zb (zcH .i64 (w64 ((w64 (t_0.1*slope_3))*981)) 100000) λxi=>
some ((min x6 x4),(min xg x4),(w64 (t_0.2.2.2.2.2.2.1+xh)),xi)) (Zb (zcH .i64 (w64 (t_0.2.2.2.2.2.2.2.1*speed_1)) 1000) λxj=>
Zb (zcH .i64 (w64 ((w64 (t_0.1*slope_3))*981)) 100000) λxk=>
some ((min x6 x4),0,(w64 (t_0.2.2.2.2.2.2.1+xj)),xk)))) (cond (decide (demand_2<0)) (Zb (zcH .i64 (w64 (t_0.2.2.2.2.1*(w64 (0-demand_2)))) 4) λxl=>
Zb (zcH .i64 (w64 (t_0.2.2.2.2.2.2.2.1*speed_1)) 1000) λxm=>
Zb (zcH .i64 (w64 ((w64 (t_0.1*slope_3))*981)) 100000) λxn=>
some (0,(min xl x4),(w64 (t_0.2.2.2.2.2.2.1+xm)),xn)) (Zb (zcH .i64 (w64 (t_0.2.2.2.2.2.2.2.1*speed_1)) 1000) λxo=>
Zb (zcH .i64 (w64 ((w64 (t_0.1*slope_3))*981)) 100000) λxp=>
some (0,0,(w64 (t_0.2.2.2.2.2.2.1+xo)),xp)))
def zaD (t_0:Train) (x_1:zb) (demand_2:Int) (slope_3:Int) (state_4:Int):Option (zb×z5×Bool):=
Zb (zcH .i64 x_1.1 t_0.1) λx5=>
Zb (zdq t_0 x5 demand_2 slope_3 state_4) λy6=>
Zb (cond (decide ((w64 (x_1.1+(w64 (100*(w64 ((w64 ((w64 (y6.1-y6.2.1))-y6.2.2.1))-y6.2.2.2))))))<0)) (some true) (cond (x_1.1==0) (some (decide ((w64 ((w64 ((w64 (y6.1-y6.2.1))-y6.2.2.1))-y6.2.2.2))<=0))) (some false))) λca=>
cond ca (some (((0,(w64 (x_1.2.1+0)),()):zb),(0,0,0,0,0,(w64 (x_1.1*x_1.1)),()),(decide (0<=(w64 (25000*t_0.1)))))) (some ((((w64 (x_1.1+(w64 (100*(w64 ((w64 ((w64 (y6.1-y6.2.1))-y6.2.2.1))-y6.2.2.2)))))),(w64 (x_1.2.1+(w64 (x_1.1+(w64 (100*(w64 ((w64 ((w64 (y6.1-y6.2.1))-y6.2.2.1))-y6.2.2.2)))))))),()):zb),(((w64 ((w64 (200*y6.1))*(w64 (x_1.1+(w64 (100*(w64 ((w64 ((w64 (y6.1-y6.2.1))-y6.2.2.1))-y6.2.2.2)))))))),(w64 ((w64 (200*y6.2.1))*(w64 (x_1.1+(w64 (100*(w64 ((w64 ((w64 (y6.1-y6.2.1))-y6.2.2.1))-y6.2.2.2)))))))),(w64 ((w64 (200*y6.2.2.1))*(w64 (x_1.1+(w64 (100*(w64 ((w64 ((w64 (y6.1-y6.2.1))-y6.2.2.1))-y6.2.2.2)))))))),(w64 ((w64 (200*y6.2.2.2))*(w64 (x_1.1+(w64 (100*(w64 ((w64 ((w64 (y6.1-y6.2.1))-y6.2.2.1))-y6.2.2.2)))))))),(w64 ((w64 (10000*(w64 ((w64 ((w64 (y6.1-y6.2.1))-y6.2.2.1))-y6.2.2.2))))*(w64 ((w64 ((w64 (y6.1-y6.2.1))-y6.2.2.1))-y6.2.2.2)))),0,()):z5),(decide ((w64 (x_1.1+(w64 (100*(w64 ((w64 ((w64 (y6.1-y6.2.1))-y6.2.2.1))-y6.2.2.2))))))<=(w64 (25000*t_0.1))))))
def zdr (p_0:Plan) (l_1:(List zH)) (front_2:Int) (length_3:Int):Option (List Cover):=
Zb (iter (σ:=((List Cover)×Int×Int)) (τ:=(List Cover)) (λsa=>
cond (decide (sa.2.2<(zq l_1))) (Zb (idx l_1 sa.2.2) λxa=>
Zb (zaB p_0 xa.1) λya=>
cond (decide ((w64 ((max (w64 (front_2-length_3)) sa.2.1)-sa.2.1))>=(w64 ((min front_2 (w64 (sa.2.1+ya)))-sa.2.1)))) (some (.inl (sa.1,(w64 (sa.2.1+ya)),(w64 (sa.2.2+1))))) (Zb (idx l_1 sa.2.2) λxb=>
cond xb.2.1 (Zb (idx l_1 sa.2.2) λxd=>
Zb (zda 24 sa.1 ([((xd.1,(w64 (ya-(w64 ((min front_2 (w64 (sa.2.1+ya)))-sa.2.1)))),(w64 (ya-(w64 ((max (w64 (front_2-length_3)) sa.2.1)-sa.2.1)))),()):Cover)])) λxe=>
some (.inl (xe,(w64 (sa.2.1+ya)),(w64 (sa.2.2+1))))) (Zb (idx l_1 sa.2.2) λxf=>
Zb (zda 24 sa.1 ([((xf.1,(w64 ((max (w64 (front_2-length_3)) sa.2.1)-sa.2.1)),(w64 ((min front_2 (w64 (sa.2.1+ya)))-sa.2.1)),()):Cover)])) λxg=>
some (.inl (xg,(w64 (sa.2.1+ya)),(w64 (sa.2.2+1))))))) (some (.inr sa.1))) big ([],0,0)) λta=>
some ta
def zdd (p_0:Plan) (way_1:(List zH)) (t_2:Train) (place_3:Int):Option (Int):=
Zb (zdr p_0 way_1 place_3 t_2.2.1) λy1=>
Zb (iter (σ:=(Int×Int)) (τ:=Int) (λs8=>
cond (decide (s8.2<(zq y1))) (Zb (idx y1 s8.2) λxa=>
Zb (idx p_0.2.1 xa.1) λxb=>
some (.inl ((min s8.1 xb.2.2.2.1),(w64 (s8.2+1))))) (some (.inr s8.1))) big (t_2.2.2.1,0)) λta=>
some ta
def zdF (r_0:z8) (x_1:zb):Option (Bool):=
Zb (iter (σ:=(Int×Int×Int)) (τ:=(Bool×Int×Int)) (λsa=>
Zb (zL r_0.2.2.1 (sa.2.1,sa.2.2,())) λyb=>
cond (decide (yb>r_0.2.2.2.2.1)) (some (.inr (false,sa.2.1,sa.2.2))) (Zb (zcH .i64 sa.2.1 r_0.2.2.1.1) λxa=>
Zb (zL r_0.2.2.1 (sa.2.1,sa.2.2,())) λyc=>
Zb (zdd r_0.1 r_0.2.1 r_0.2.2.1 yc) λyd=>
cond (decide (xa>yd)) (some (.inr (false,sa.2.1,sa.2.2))) (cond (sa.2.1==0) (some (.inr (true,sa.2.1,sa.2.2))) (cond (sa.1==36000) (some (.inr (false,sa.2.1,sa.2.2))) (Zb (zL r_0.2.2.1 (sa.2.1,sa.2.2,())) λye=>
Zb (za0 r_0 ye) λyf=>
Zb (zaD r_0.2.2.1 (sa.2.1,sa.2.2,()) (-4) yf r_0.2.2.2.1) λya=>
cond (!ya.2.2) (some (.inr (false,ya.1.1,ya.1.2.1))) (some (.inl ((w64 (sa.1+1)),ya.1.1,ya.1.2.1)))))))) big (0,x_1.1,x_1.2.1)) λta=>
some ta.1
def zcb (r_0:z8) (x_1:zb):Option (Int×Bool):=
Zb (iter (σ:=Int) (τ:=Unit⊕(Int×Bool)) (λsa=>
cond (decide (sa>=(-4))) (Zb (zL r_0.2.2.1 x_1) λyb=>
Zb (za0 r_0 yb) λyc=>
Zb (zaD r_0.2.2.1 x_1 sa yc r_0.2.2.2.1) λya=>
cond ya.2.2 (Zb (zdF r_0 ya.1) λyd=>
cond yd (some (.inr (.inr (sa,true)))) (some (.inl (w64 (sa-1))))) (some (.inl (w64 (sa-1))))) (some (.inr (.inl ())))) big 4) λta=>
alt (λbb=>some (0,false)) (λba=>some (ba.1,ba.2)) ta
def zbA (t_0:Train) (x_1:zb) (demand_2:Int) (slope_3:Int) (state_4:Int):Option (Int×Int):=
Zb (zcH .i64 x_1.1 t_0.1) λx3=>
Zb (zdq t_0 x3 demand_2 slope_3 state_4) λy4=>
Zb (zaD t_0 x_1 demand_2 slope_3 state_4) λy5=>
Zb (zcH .i64 (w64 ((w64 ((w64 (y4.1*y5.1.1))+(w64 (1000*t_0.1))))-1)) (w64 (1000*t_0.1))) λxa=>
Zb (zcH .i64 (w64 ((w64 (y4.2.1*y5.1.1))*t_0.2.2.2.2.2.2.2.2.1)) (w64 (100000*t_0.1))) λxb=>
some (xa,xb)
def zeh (a_0:z5) (b_1:z5):Option (z5):=
some (((w64 (a_0.1+b_1.1)),(w64 (a_0.2.1+b_1.2.1)),(w64 (a_0.2.2.1+b_1.2.2.1)),(w64 (a_0.2.2.2.1+b_1.2.2.2.1)),(w64 (a_0.2.2.2.2.1+b_1.2.2.2.2.1)),(w64 (a_0.2.2.2.2.2.1+b_1.2.2.2.2.2.1)),()):z5)
def zdY (p_0:Plan) (way_1:(List zH)) (t_2:Train) (state_3:Int) (stops_4:(List Int)):Option ((List Leg)×Bool):=
Zb (idx stops_4 0) λx3=>
Zb (iter (σ:=((List Leg)×Int×Int×Int)) (τ:=((List Leg)×Int×Int)⊕((List Leg)×Bool)) (λsb=>
cond (decide (sb.2.1<(zq stops_4))) (Zb (idx stops_4 sb.2.1) λxb=>
Zb (iter (σ:=(Int×Int×Int×Int×Int×Int×Int×Int×Int×Int×Int×Int)) (τ:=(Train×zb×Int×(List Int)×Int×Int×Int×Int×Bool×Int×Int×Int×Int×Int×Int×Int×Int×Int×Int×Int)⊕((List Leg)×Bool×Int×Int×Int×Int×Int×Int×Int×Int×Int×Int×Int)) (λsa=>
cond (decide (sa.2.2.2.2.2.2.2.2.2.2.1>0)) (cond (sa.1==36000) (some (.inr (.inr ([],false,sa.2.1,sa.2.2.1,sa.2.2.2.1,sa.2.2.2.2.1,sa.2.2.2.2.2.1,sa.2.2.2.2.2.2.1,sa.2.2.2.2.2.2.2.1,sa.2.2.2.2.2.2.2.2.1,sa.2.2.2.2.2.2.2.2.2.1,sa.2.2.2.2.2.2.2.2.2.2.1,sa.2.2.2.2.2.2.2.2.2.2.2)))) (cond (decide (sa.2.2.2.2.2.2.2.2.2.2.2>10000000000000000)) (some (.inr (.inr ([],false,sa.2.1,sa.2.2.1,sa.2.2.2.1,sa.2.2.2.2.1,sa.2.2.2.2.2.1,sa.2.2.2.2.2.2.1,sa.2.2.2.2.2.2.2.1,sa.2.2.2.2.2.2.2.2.1,sa.2.2.2.2.2.2.2.2.2.1,sa.2.2.2.2.2.2.2.2.2.2.1,sa.2.2.2.2.2.2.2.2.2.2.2)))) (Zb (zcb ((p_0,way_1,t_2,state_3,xb,()):z8) (sa.2.2.2.2.2.2.2.2.2.2.1,sa.2.2.2.2.2.2.2.2.2.2.2,())) λyc=>
cond (!yc.2) (some (.inr (.inr ([],false,sa.2.1,sa.2.2.1,sa.2.2.2.1,sa.2.2.2.2.1,sa.2.2.2.2.2.1,sa.2.2.2.2.2.2.1,sa.2.2.2.2.2.2.2.1,sa.2.2.2.2.2.2.2.2.1,sa.2.2.2.2.2.2.2.2.2.1,sa.2.2.2.2.2.2.2.2.2.2.1,sa.2.2.2.2.2.2.2.2.2.2.2)))) (Zb (zL t_2 (sa.2.2.2.2.2.2.2.2.2.2.1,sa.2.2.2.2.2.2.2.2.2.2.2,())) λyl=>
Zb (za0 ((p_0,way_1,t_2,state_3,xb,()):z8) yl) λyh=>
Zb (zbA t_2 (sa.2.2.2.2.2.2.2.2.2.2.1,sa.2.2.2.2.2.2.2.2.2.2.2,()) yc.1 yh state_3) λyi=>
Zb (zaD t_2 (sa.2.2.2.2.2.2.2.2.2.2.1,sa.2.2.2.2.2.2.2.2.2.2.2,()) yc.1 yh state_3) λyd=>
Zb (zeh (sa.2.2.1,sa.2.2.2.1,sa.2.2.2.2.1,sa.2.2.2.2.2.1,sa.2.2.2.2.2.2.1,sa.2.2.2.2.2.2.2.1,()) yd.2.1) λya=>
some (.inl ((w64 (sa.1+1)),(w64 (sa.2.1+100)),ya.1,ya.2.1,ya.2.2.1,ya.2.2.2.1,ya.2.2.2.2.1,ya.2.2.2.2.2.1,(max sa.2.2.2.2.2.2.2.2.1 yi.1),(max sa.2.2.2.2.2.2.2.2.2.1 yi.2),yd.1.1,yd.1.2.1)))))) (Zb (zL t_2 (sa.2.2.2.2.2.2.2.2.2.2.1,sa.2.2.2.2.2.2.2.2.2.2.2,())) λye=>
Zb (idx stops_4 sb.2.1) λxa=>
cond (decide (ye<(w64 (xa-1000)))) (cond (sa.1==36000) (some (.inr (.inr ([],false,sa.2.1,sa.2.2.1,sa.2.2.2.1,sa.2.2.2.2.1,sa.2.2.2.2.2.1,sa.2.2.2.2.2.2.1,sa.2.2.2.2.2.2.2.1,sa.2.2.2.2.2.2.2.2.1,sa.2.2.2.2.2.2.2.2.2.1,sa.2.2.2.2.2.2.2.2.2.2.1,sa.2.2.2.2.2.2.2.2.2.2.2)))) (cond (decide (sa.2.2.2.2.2.2.2.2.2.2.2>10000000000000000)) (some (.inr (.inr ([],false,sa.2.1,sa.2.2.1,sa.2.2.2.1,sa.2.2.2.2.1,sa.2.2.2.2.2.1,sa.2.2.2.2.2.2.1,sa.2.2.2.2.2.2.2.1,sa.2.2.2.2.2.2.2.2.1,sa.2.2.2.2.2.2.2.2.2.1,sa.2.2.2.2.2.2.2.2.2.2.1,sa.2.2.2.2.2.2.2.2.2.2.2)))) (Zb (zcb ((p_0,way_1,t_2,state_3,xb,()):z8) (sa.2.2.2.2.2.2.2.2.2.2.1,sa.2.2.2.2.2.2.2.2.2.2.2,())) λyf=>
cond (!yf.2) (some (.inr (.inr ([],false,sa.2.1,sa.2.2.1,sa.2.2.2.1,sa.2.2.2.2.1,sa.2.2.2.2.2.1,sa.2.2.2.2.2.2.1,sa.2.2.2.2.2.2.2.1,sa.2.2.2.2.2.2.2.2.1,sa.2.2.2.2.2.2.2.2.2.1,sa.2.2.2.2.2.2.2.2.2.2.1,sa.2.2.2.2.2.2.2.2.2.2.2)))) (Zb (zL t_2 (sa.2.2.2.2.2.2.2.2.2.2.1,sa.2.2.2.2.2.2.2.2.2.2.2,())) λym=>
Zb (za0 ((p_0,way_1,t_2,state_3,xb,()):z8) ym) λyj=>
Zb (zbA t_2 (sa.2.2.2.2.2.2.2.2.2.2.1,sa.2.2.2.2.2.2.2.2.2.2.2,()) yf.1 yj state_3) λyk=>
Zb (zaD t_2 (sa.2.2.2.2.2.2.2.2.2.2.1,sa.2.2.2.2.2.2.2.2.2.2.2,()) yf.1 yj state_3) λyg=>
Zb (zeh (sa.2.2.1,sa.2.2.2.1,sa.2.2.2.2.1,sa.2.2.2.2.2.1,sa.2.2.2.2.2.2.1,sa.2.2.2.2.2.2.2.1,()) yg.2.1) λyb=>
some (.inl ((w64 (sa.1+1)),(w64 (sa.2.1+100)),yb.1,yb.2.1,yb.2.2.1,yb.2.2.2.1,yb.2.2.2.2.1,yb.2.2.2.2.2.1,(max sa.2.2.2.2.2.2.2.2.1 yk.1),(max sa.2.2.2.2.2.2.2.2.2.1 yk.2),yg.1.1,yg.1.2.1)))))) (some (.inr (.inl (t_2,(sa.2.2.2.2.2.2.2.2.2.2.1,sa.2.2.2.2.2.2.2.2.2.2.2,()),ye,stops_4,sb.2.1,xa,xa,(w64 (xa-1000)),(decide (ye<(w64 (xa-1000)))),sa.2.1,sa.2.2.1,sa.2.2.2.1,sa.2.2.2.2.1,sa.2.2.2.2.2.1,sa.2.2.2.2.2.2.1,sa.2.2.2.2.2.2.2.1,sa.2.2.2.2.2.2.2.2.1,sa.2.2.2.2.2.2.2.2.2.1,sa.2.2.2.2.2.2.2.2.2.2.1,sa.2.2.2.2.2.2.2.2.2.2.2)))))) big (0,0,0,0,0,0,0,0,0,0,sb.2.2.1,sb.2.2.2)) λta=>
alt (λba=>Zb (zL t_2 (ba.2.2.2.2.2.2.2.2.2.2.2.2.2.2.2.2.2.2.1,ba.2.2.2.2.2.2.2.2.2.2.2.2.2.2.2.2.2.2.2,())) λyn=>
Zb (zda 80 sb.1 ([(ba.2.2.2.2.2.2.2.2.2.1,yn,(ba.2.2.2.2.2.2.2.2.2.2.1,ba.2.2.2.2.2.2.2.2.2.2.2.1,ba.2.2.2.2.2.2.2.2.2.2.2.2.1,ba.2.2.2.2.2.2.2.2.2.2.2.2.2.1,ba.2.2.2.2.2.2.2.2.2.2.2.2.2.2.1,ba.2.2.2.2.2.2.2.2.2.2.2.2.2.2.2.1,()),ba.2.2.2.2.2.2.2.2.2.2.2.2.2.2.2.2.1,ba.2.2.2.2.2.2.2.2.2.2.2.2.2.2.2.2.2.1,())])) λxd=>
some (.inl (xd,(w64 (sb.2.1+1)),ba.2.2.2.2.2.2.2.2.2.2.2.2.2.2.2.2.2.2.1,ba.2.2.2.2.2.2.2.2.2.2.2.2.2.2.2.2.2.2.2))) (λbb=>some (.inr (.inr (bb.1,bb.2.1)))) ta) (some (.inr (.inl (sb.1,sb.2.2.1,sb.2.2.2))))) big ([],1,0,(w64 ((w64 (10*t_2.1))*x3)))) λtb=>
alt (λbc=>some (bc.1,(decide (bc.2.2<=10000000000000000)))) (λbd=>some (bd.1,bd.2)) tb
def zfh (p_0:Plan) (way_1:(List zH)) (t_2:Train) (state_3:Int) (stops_4:(List Int)):Option ((List Int)×Bool):=
Zb (zdX p_0 way_1 t_2 state_3 stops_4) λy1=>
cond (!y1) (some ([],false)) (Zb (zdY p_0 way_1 t_2 state_3 stops_4) λy3=>
Zb (iter (σ:=((List Int)×Int)) (τ:=(List Int)) (λs9=>
cond (decide (s9.2<(zq y3.1))) (Zb (idx y3.1 s9.2) λxa=>
Zb (zda 8 s9.1 ([xa.1])) λxb=>
some (.inl (xb,(w64 (s9.2+1))))) (some (.inr s9.1))) big ([],0)) λta=>
some (ta,y3.2))
def zcB (p_0:Plan) (l_1:Line) (home_2:Bool):Option ((List Int)×Bool):=
Zb (zen l_1 home_2) λy1=>
Zb (Zb (zeg p_0 y1.1) λyb=>
cond (!yb) (some true) (Zb (zcK (zq y1.2.1) 2 60) λyc=>
cond (!yc) (some true) (cond ((zq y1.2.2.1)!=(zq y1.2.1)) (some true) (Zb (idx y1.2.2.1 0) λxa=>
cond (xa !=0) (some true) (Zb (idx y1.2.2.1 (w64 ((zq y1.2.2.1)-1))) λxb=>
some (xb !=0)))))) λca=>
cond ca (some ([],false)) (Zb (iter (σ:=Int) (τ:=Unit⊕((List Int)×Bool)) (λsa=>
cond (decide (sa<(zq y1.2.1))) (Zb (idx y1.2.1 sa) λxd=>
Zb (zbX p_0 y1.1) λyd=>
Zb (zcK xd 1 yd) λye=>
cond (!ye) (some (.inr (.inr ([],false)))) (Zb (idx y1.2.2.1 sa) λxe=>
Zb (zcK xe 0 600) λyf=>
cond (!yf) (some (.inr (.inr ([],false)))) (cond (decide (sa>0)) (Zb (idx y1.2.1 sa) λxf=>
Zb (idx y1.2.1 (w64 (sa-1))) λxg=>
cond (decide (xf<=xg)) (some (.inr (.inr ([],false)))) (some (.inl (w64 (sa+1))))) (some (.inl (w64 (sa+1))))))) (some (.inr (.inl ())))) big 0) λta=>
alt (λbb=>Zb (zfh p_0 y1.1 l_1.2.2.1 l_1.2.2.2.1 y1.2.1) λya=>
cond (!ya.2) (some ([],false)) (Zb (iter (σ:=((List Int)×Int)) (τ:=(List Int)) (λsb=>
cond (decide (sb.2<(zq ya.1))) (Zb (idx ya.1 sb.2) λxh=>
Zb (zcH .i64 (w64 (xh+999)) 1000) λxi=>
Zb (zda 8 sb.1 ([(max 1 xi)])) λxj=>
some (.inl (xj,(w64 (sb.2+1))))) (some (.inr sb.1))) big ([],0)) λtb=>
some (tb,true))) (λba=>some (ba.1,ba.2)) ta)
def zeD (p_0:Plan) (l_1:Line) (home_2:Bool):Option (List Int):=
Zb (zcB p_0 l_1 home_2) λy1=>
some y1.1
def zba (p_0:Plan) (l_1:Line) (home_2:Bool):Option (List Int):=
Zb (zen l_1 home_2) λy1=>
Zb (zeD p_0 l_1 home_2) λy3=>
Zb (iter (σ:=((List Int)×Int)) (τ:=(List Int)) (λsa=>
cond (decide (sa.2<(zq y3))) (Zb (idx sa.1 sa.2) λxa=>
Zb (idx y3 sa.2) λxb=>
Zb (idx y1.2.2.1 (w64 (sa.2+1))) λxd=>
Zb (zda 8 sa.1 ([(w64 ((w64 (xa+xb))+xd))])) λxe=>
some (.inl (xe,(w64 (sa.2+1))))) (some (.inr sa.1))) big ([0],0)) λta=>
some ta
def zdG (p_0:Plan) (l_1:Line):Option (Bool):=
Zb (zcK l_1.2.2.2.2.1 0 3600) λy1=>
cond (!y1) (some false) (Zb (iter (σ:=Int) (τ:=Unit⊕(Bool)) (λsa=>
cond (decide (sa<2)) (Zb (zcB p_0 l_1 (sa==1)) λyb=>
cond (!yb.2) (some (.inr (.inr false))) (Zb (zba p_0 l_1 (sa==1)) λya=>
Zb (idx ya (w64 ((zq ya)-1))) λxa=>
cond (decide (xa>50000)) (some (.inr (.inr false))) (some (.inl (w64 (sa+1)))))) (some (.inr (.inl ())))) big 0) λta=>
alt (λbb=>some true) (λba=>some ba) ta)
def zfi (p_0:Plan) (s_1:Service):Option (Bool):=
Zb (iter (σ:=Int) (τ:=Unit⊕(Bool)) (λs5=>
cond (decide (s5<(zq s_1.1))) (Zb (idx s_1.1 s5) λx8=>
Zb (zcE x8) λy9=>
cond (!y9) (some (.inr (.inr false))) (some (.inl (w64 (s5+1))))) (some (.inr (.inl ())))) big 0) λta=>
alt (λbb=>Zb (Zb (zdS p_0) λya=>
cond ya (cond (decide ((zq s_1.1)<=3)) (cond (decide ((zq s_1.2.1)<=4)) (some (decide ((zq s_1.2.2.1)<=4))) (some false)) (some false)) (some false)) λca=>
some ca) (λba=>some ba) ta
def zc0 (p_0:Plan) (s_1:Service):Option (Bool):=
Zb (Zb (zcD p_0) λy7=>
cond (!y7) (some true) (Zb (zcK (zq s_1.1) 1 20) λy9=>
cond (!y9) (some true) (cond ((zq s_1.2.1)!=(zq s_1.1)) (some true) (some ((zq s_1.2.2.1)!=(zq s_1.1)))))) λc6=>
cond c6 (some false) (Zb (iter (σ:=Int) (τ:=Unit⊕(Bool)) (λsa=>
cond (decide (sa<(zq s_1.1))) (Zb (idx s_1.1 sa) λxa=>
Zb (zdG p_0 xa) λya=>
cond (!ya) (some (.inr (.inr false))) (Zb (idx s_1.2.1 sa) λxb=>
Zb (zcK xb 30 7200) λyb=>
cond (!yb) (some (.inr (.inr false))) (Zb (idx s_1.2.2.1 sa) λxd=>
Zb (idx s_1.2.1 sa) λxe=>
Zb (zcK xd 0 (w64 (xe-1))) λyc=>
cond (!yc) (some (.inr (.inr false))) (some (.inl (w64 (sa+1))))))) (some (.inr (.inl ())))) big 0) λta=>
alt (λbb=>some true) (λba=>some ba) ta)
def zc1 (p_0:Plan) (l_1:(List Line)):Option ((List zl)×Bool):=
Zb (zO (zq l_1) 1 20) λy1=>
cond (!y1) (some ([],false)) (Zb (iter (σ:=((List zl)×Int)) (τ:=(List zl)⊕((List zl)×Bool)) (λsa=>
cond (decide (sa.2<(zq l_1))) (Zb (idx l_1 sa.2) λxa=>
Zb (zbz p_0 xa) λya=>
cond (!ya.2) (some (.inr (.inr ([],false)))) (Zb ya.1 λpa=>
Zb (zda 8 sa.1 ([pa])) λxb=>
some (.inl (xb,(w64 (sa.2+1)))))) (some (.inr (.inl sa.1)))) big ([],0)) λta=>
alt (λbb=>some (bb,true)) (λba=>some (ba.1,ba.2)) ta)
def zcr (p_0:Plan) (s_1:Service):Option ((List zl)×Bool):=
Zb (cond ((zq s_1.2.1)!=(zq s_1.1)) (some true) (some ((zq s_1.2.2.1)!=(zq s_1.1)))) λc2=>
cond c2 (some ([],false)) (Zb (iter (σ:=Int) (τ:=Unit⊕((List zl)×Bool)) (λsa=>
cond (decide (sa<(zq s_1.2.1))) (Zb (idx s_1.2.1 sa) λxa=>
Zb (zO xa 30 7200) λyb=>
cond (!yb) (some (.inr (.inr ([],false)))) (Zb (idx s_1.2.2.1 sa) λxb=>
Zb (zO xb 0 (w64 (xa-1))) λyc=>
cond (!yc) (some (.inr (.inr ([],false)))) (some (.inl (w64 (sa+1)))))) (some (.inr (.inl ())))) big 0) λta=>
alt (λbb=>Zb (zc1 p_0 s_1.1) λya=>
some (ya.1,ya.2)) (λba=>some (ba.1,ba.2)) ta)
def zaT (r_0:zl) (side_1:Int) (headway_2:Int) (offset_3:Int):Option (Int):=
cond (side_1==0) (some offset_3) (Zb (zt r_0 0) λy6=>
Zb (zaE r_0 headway_2) λy7=>
Zb (zaN r_0) λy8=>
Zb (zcH .i64 (w64 ((w64 (y7*headway_2))-y8)) 2) λx9=>
some (w64 ((w64 ((w64 (offset_3+y6))+r_0.1.2.2.2.2.1))+x9)))
def zbh (n_0:Int) (h_1:Int):Option (Int):=
Zb (zps n_0 h_1) λx1=>
Zb (zps (w64 (x1+h_1)) h_1) λx2=>
some x2
def zki (all_0:(List zl)) (headway_1:Int) (offsets_2:(List Int)) (c_3:Connection):Option (Int):=
Zb (idx all_0 c_3.1) λx3=>
Zb (idx all_0 c_3.2.2.2.1) λx4=>
Zb (zdo c_3.2.1) λy7=>
Zb (zdo c_3.2.2.2.2.1) λy8=>
Zb (idx offsets_2 c_3.1) λxa=>
Zb (zaT x3 y7 headway_1 xa) λya=>
Zb (idx x3.2.2.1 y7) λxb=>
Zb (idx xb c_3.2.2.1) λxd=>
Zb (zbs x3.1) λyb=>
Zb (idx yb y7) λxe=>
Zb (idx xe.2.2.1 c_3.2.2.1) λxf=>
Zb (idx offsets_2 c_3.2.2.2.1) λxg=>
Zb (zaT x4 y8 headway_1 xg) λyc=>
Zb (idx x4.2.2.1 y8) λxh=>
Zb (idx xh c_3.2.2.2.2.2.1) λxi=>
Zb (zbh (w64 ((w64 ((w64 (yc+xi))-(w64 ((w64 (ya+xd))-xf))))-c_3.2.2.2.2.2.2.1)) headway_1) λyd=>
some (w64 (c_3.2.2.2.2.2.2.1+yd))
def z4 (s_0:(List Works)) (f_1:((Works)->Option (Bool))):Option (Int):=
Zb (iter (σ:=Int) (τ:=Unit⊕(Int)) (λs5=>
cond (decide (s5<(zq s_0))) (Zb (idx s_0 s5) λx8=>
Zb (f_1 x8) λy9=>
cond y9 (some (.inr (.inr s5))) (some (.inl (w64 (s5+1))))) (some (.inr (.inl ())))) big 0) λta=>
alt (λbb=>some (-1)) (λba=>some ba) ta
def zT (s_0:(List Works)) (f_1:((Works)->Option (Bool))):Option (Bool):=
Zb (z4 s_0 f_1) λy1=>
some (decide (y1>=0))
def zbx (x_0:Works) (p_1:Plan):Option (Bool):=
Zb (Zb (zO x_0.1 0 (w64 ((zq p_1.2.1)-1))) λy6=>
cond (!y6) (some true) (Zb (zO x_0.2.1 0 x_0.2.2.1) λy8=>
cond (!y8) (some true) (some (decide (x_0.2.2.1>200000))))) λc5=>
some c5
def zcs (p_0:Plan) (w_1:(List Works)):Option (Bool):=
Zb (cond (decide ((zq w_1)<=100)) (Zb (zT w_1 (λx=>zbx x p_0)) λy5=>
some (!y5)) (some false)) λc3=>
some c3
def zF {σ τ:Type} (step:σ->(Int×Int)->Option (σ⊕τ)) (s_:σ) (p_1:zl) (p_2:Int) (p_3:Int) (p_4:Int) (p_5:Int):Option (σ⊕τ):=
Zb (zaT p_1 p_2 p_3 p_4) λy1=>
Zb (zbh (w64 (y1-p_5)) p_3) λy3=>
Zb (iter (σ:=(Int×(σ⊕τ))) (τ:=(σ⊕τ)) (λsa=>
Zb (zcH .i64 (w64 (sa.1-y1)) p_3) λxa=>
Zb (zaE p_1 p_3) λyb=>
Zb (zbh xa yb) λyc=>
Zb (goL sa.2) λsb=>
Zb (step sb (sa.1,yc)) λya=>
cond (!(ya).isLeft) (some (.inr ya)) (some (.inl ((w64 (sa.1+p_3)),ya)))) big ((w64 (p_5+y3)),(.inl s_))) λta=>
some ta
def zak (r_0:zl) (side_1:Int) (headway_2:Int) (offset_3:Int) (from_4:Int):Option (zl×Int×Int×Int×Int):=
some (r_0,side_1,headway_2,offset_3,from_4)
def zat (s_0:(List zH)) (f_1:((zH)->Option (Bool))):Option (Int):=
Zb (iter (σ:=Int) (τ:=Unit⊕(Int)) (λs5=>
cond (decide (s5<(zq s_0))) (Zb (idx s_0 s5) λx8=>
Zb (f_1 x8) λy9=>
cond y9 (some (.inr (.inr s5))) (some (.inl (w64 (s5+1))))) (some (.inr (.inl ())))) big 0) λta=>
alt (λbb=>some (-1)) (λba=>some ba) ta
def zaL (s_0:(List zH)) (f_1:((zH)->Option (Bool))):Option (Bool):=
Zb (zat s_0 f_1) λy1=>
some (decide (y1>=0))
def zbB (m_0:zH) (p_1:Works):Option (Bool):=
some (m_0.1==p_1.1)
def zaO (x_0:Works) (p_1:(List zH)) (p_2:Int) (p_3:zl) (p_4:Int):Option (Bool):=
Zb (zaL p_1 (λx=>zbB x x_0)) λy1=>
Zb (cond y1 (cond (decide (p_2<x_0.2.2.1)) (Zb (zt p_3 p_4) λya=>
some (decide (x_0.2.1<(w64 (p_2+ya))))) (some false)) (some false)) λc8=>
some c8
def zau (r_0:zl) (side_1:Int) (depart_2:Int) (w_3:(List Works)):Option (Bool):=
Zb (zbs r_0.1) λy4=>
Zb (idx y4 side_1) λx5=>
Zb (zT w_3 (λx=>zaO x x5.1 depart_2 r_0 side_1)) λy7=>
some (!y7)
def zfO   (rec:Int->(List Connection)->(List zl)->Int->(List Int)->(List Line)->Int->Option ((Bool)×(List Int)×Int)) (n_0:Int) (p_1:(List Connection)) (p_2:(List zl)) (p_3:Int) (p_4:(List Int)) (p_5:(List Line)) (p_6:Int):Option ((Bool)×(List Int)×Int):=
Zb (iter (σ:=Int) (τ:=Unit⊕(Bool)) (λsb=>
cond (decide (sb<(zq p_1))) (Zb (idx p_1 sb) λxa=>
cond ((max xa.1 xa.2.2.2.1)==(w64 (n_0-1))) (Zb (zki p_2 p_3 p_4 xa) λyb=>
cond (decide (yb>xa.2.2.2.2.2.2.2.1)) (some (.inr (.inr false))) (some (.inl (w64 (sb+1))))) (some (.inl (w64 (sb+1))))) (some (.inr (.inl ())))) big 0) λta=>
alt (λbd=>cond (n_0==(zq p_5)) (some (true,p_4,p_6)) (Zb (idx p_4 n_0) λxe=>
Zb (iter (σ:=((List Int)×Int)) (τ:=((List Int)×Int)⊕(Bool×(List Int)×Int)) (λsa=>
Zb (idx sa.1 n_0) λxb=>
cond (decide (xb<p_3)) (cond (sa.2==100000) none (Zb (rec (w64 (n_0+1)) p_1 p_2 p_3 sa.1 p_5 (w64 (sa.2+1))) λya=>
cond ya.1 (some (.inr (.inr (true,ya.2.1,ya.2.2)))) (Zb (idx ya.2.1 n_0) λxd=>
Zb (idx ya.2.1 n_0) λxf=>
some (.inl ((ya.2.1).set (Int.toNat n_0) (w64 (xd+1)),ya.2.2))))) (some (.inr (.inl (sa.1,sa.2))))) big ((p_4).set (Int.toNat n_0) 0,p_6)) λtb=>
alt (λba=>Zb (idx ba.1 n_0) λxg=>
some (false,(ba.1).set (Int.toNat n_0) 0,ba.2)) (λbb=>some (bb.1,bb.2.1,bb.2.2)) tb)) (λbc=>some (bc,p_4,p_6)) ta
def zhj  :Nat->Int->(List Connection)->(List zl)->Int->(List Int)->(List Line)->Int->Option ((Bool)×(List Int)×Int)
 | 0=>λ_ _ _ _ _ _ _=>none
 | k+1=>zfO (zhj k)
def zao (n_1:Int):Option (List Trip):=
cond (decide (n_1<0)) none (cond (decide ((w64 (n_1-(w64 (0-0))))>0)) (Zb (znO 32 (w64 (n_1-(w64 (0-0)))) ((0,false,0,0,()):Trip)) λx3=>
Zb (slz x3) λx5=>
some ([]:List Trip)) (some ([])))
def zaj (slices_0:(List (List Trip))):Option (List Trip):=
Zb (iter (σ:=(Int×Int)) (τ:=Int) (λs4=>
cond (decide (s4.2<(zq slices_0))) (Zb (idx slices_0 s4.2) λx7=>
cond (decide ((w64 (s4.1+(zq x7)))<0)) none (some (.inl ((w64 (s4.1+(zq x7))),(w64 (s4.2+1)))))) (some (.inr s4.1))) big (0,0)) λt9=>
Zb (zao t9) λya=>
Zb (iter (σ:=((List Trip)×Int)) (τ:=(List Trip)) (λsa=>
cond (decide (sa.2<(zq slices_0))) (Zb (idx slices_0 sa.2) λxa=>
Zb (zda 32 sa.1 xa) λxb=>
some (.inl (xb,(w64 (sa.2+1))))) (some (.inr sa.1))) big (ya,0)) λta=>
some ta
def zD   (data_0:(List Trip)) (a_1:Int) (b_2:Int) (cmp_3:((Trip×Trip)->Option (Int))):Option (List Trip):=
Zb (iter (σ:=(Int×(List Trip))) (τ:=(List Trip)) (λsb=>
cond (decide (sb.1<b_2)) (Zb (iter (σ:=(Int×(List Trip))) (τ:=(List Trip)) (λsa=>
cond (decide (sa.1>a_1)) (Zb (idx sa.2 sa.1) λxb=>
Zb (idx sa.2 (w64 (sa.1-1))) λxd=>
Zb (cmp_3 (xb,xd)) λya=>
cond (decide (ya<0)) (Zb (idx sa.2 (w64 (sa.1-1))) λxa=>
Zb (idx sa.2 sa.1) λxe=>
Zb (idx sa.2 sa.1) λxf=>
Zb (idx ((sa.2).set (Int.toNat sa.1) xa) (w64 (sa.1-1))) λxg=>
some (.inl ((w64 (sa.1-1)),((sa.2).set (Int.toNat sa.1) xa).set (Int.toNat (w64 (sa.1-1))) xe))) (some (.inr sa.2))) (some (.inr sa.2))) big (sb.1,sb.2)) λta=>
some (.inl ((w64 (sb.1+1)),ta))) (some (.inr sb.2))) big ((w64 (a_1+1)),data_0)) λtb=>
some tb
def zn   (data_0:(List Trip)) (a_1:Int) (b_2:Int) (n_3:Int) (cmp_4:((Trip×Trip)->Option (Int))):Option (List Trip):=
Zb (iter (σ:=(Int×(List Trip))) (τ:=(List Trip)) (λsa=>
cond (decide (sa.1<n_3)) (Zb (idx sa.2 (w64 (b_2+sa.1))) λxa=>
Zb (idx sa.2 (w64 (a_1+sa.1))) λxb=>
Zb (idx sa.2 (w64 (a_1+sa.1))) λxd=>
Zb (idx ((sa.2).set (Int.toNat (w64 (a_1+sa.1))) xa) (w64 (b_2+sa.1))) λxe=>
some (.inl ((w64 (sa.1+1)),((sa.2).set (Int.toNat (w64 (a_1+sa.1))) xa).set (Int.toNat (w64 (b_2+sa.1))) xb))) (some (.inr sa.2))) big (0,data_0)) λta=>
some ta
def zX   (data_0:(List Trip)) (a_1:Int) (m_2:Int) (b_3:Int) (cmp_4:((Trip×Trip)->Option (Int))):Option (List Trip):=
Zb (iter (σ:=(Int×Int×(List Trip))) (τ:=(Int×(List Trip))) (λsa=>
cond (sa.1 !=sa.2.1) (cond (decide (sa.1>sa.2.1)) (Zb (zn sa.2.2 (w64 (m_2-sa.1)) m_2 sa.2.1 cmp_4) λya=>
some (.inl ((w64 (sa.1-sa.2.1)),sa.2.1,ya))) (Zb (zn sa.2.2 (w64 (m_2-sa.1)) (w64 ((w64 (m_2+sa.2.1))-sa.1)) sa.1 cmp_4) λyb=>
some (.inl (sa.1,(w64 (sa.2.1-sa.1)),yb)))) (some (.inr (sa.1,sa.2.2)))) big ((w64 (m_2-a_1)),(w64 (b_3-m_2)),data_0)) λta=>
Zb (zn ta.2 (w64 (m_2-ta.1)) m_2 ta.1 cmp_4) λyc=>
some yc
def zm   (rec:(List Trip)->Int->Int->Int->((Trip×Trip)->Option (Int))->Option (List Trip)) (data_0:(List Trip)) (a_1:Int) (m_2:Int) (b_3:Int) (cmp_4:((Trip×Trip)->Option (Int))):Option (List Trip):=
cond ((w64 (m_2-a_1))==1) (Zb (iter (σ:=(Int×Int)) (τ:=Int) (λsc=>
cond (decide (sc.1<sc.2)) (Zb (ziH .u64 (IntKind.u64.wrap (w64 (sc.1+sc.2))) 1) λxe=>
Zb (idx data_0 (w64 xe)) λxi=>
Zb (idx data_0 a_1) λxj=>
Zb (cmp_4 (xi,xj)) λyg=>
cond (decide (yg<0)) (some (.inl ((w64 ((w64 xe)+1)),sc.2))) (some (.inl (sc.1,(w64 xe))))) (some (.inr sc.1))) big (m_2,b_3)) λtc=>
Zb (iter (σ:=(Int×(List Trip))) (τ:=(List Trip)) (λsa=>
cond (decide (sa.1<(w64 (tc-1)))) (Zb (idx sa.2 (w64 (sa.1+1))) λxg=>
Zb (idx sa.2 sa.1) λxk=>
Zb (idx sa.2 sa.1) λxt=>
Zb (idx ((sa.2).set (Int.toNat sa.1) xg) (w64 (sa.1+1))) λxu=>
some (.inl ((w64 (sa.1+1)),((sa.2).set (Int.toNat sa.1) xg).set (Int.toNat (w64 (sa.1+1))) xk))) (some (.inr sa.2))) big (a_1,data_0)) λtd=>
some td) (cond ((w64 (b_3-m_2))==1) (Zb (iter (σ:=(Int×Int)) (τ:=Int) (λsd=>
cond (decide (sd.1<sd.2)) (Zb (ziH .u64 (IntKind.u64.wrap (w64 (sd.1+sd.2))) 1) λxf=>
Zb (idx data_0 m_2) λxl=>
Zb (idx data_0 (w64 xf)) λxm=>
Zb (cmp_4 (xl,xm)) λyh=>
cond (!(decide (yh<0))) (some (.inl ((w64 ((w64 xf)+1)),sd.2))) (some (.inl (sd.1,(w64 xf))))) (some (.inr sd.1))) big (a_1,m_2)) λte=>
Zb (iter (σ:=(Int×(List Trip))) (τ:=(List Trip)) (λsb=>
cond (decide (sb.1>te)) (Zb (idx sb.2 (w64 (sb.1-1))) λxh=>
Zb (idx sb.2 sb.1) λxn=>
Zb (idx sb.2 sb.1) λxv=>
Zb (idx ((sb.2).set (Int.toNat sb.1) xh) (w64 (sb.1-1))) λxw=>
some (.inl ((w64 (sb.1-1)),((sb.2).set (Int.toNat sb.1) xh).set (Int.toNat (w64 (sb.1-1))) xn))) (some (.inr sb.2))) big (m_2,data_0)) λtf=>
some tf) (Zb (ziH .u64 (IntKind.u64.wrap (w64 (a_1+b_3))) 1) λxa=>
cond (decide (m_2>(w64 xa))) (Zb (iter (σ:=(Int×Int)) (τ:=Int) (λse=>
cond (decide (se.1<se.2)) (Zb (ziH .u64 (IntKind.u64.wrap (w64 (se.1+se.2))) 1) λxb=>
Zb (idx data_0 (w64 ((w64 ((w64 ((w64 xa)+m_2))-1))-(w64 xb)))) λxo=>
Zb (idx data_0 (w64 xb)) λxp=>
Zb (cmp_4 (xo,xp)) λyi=>
cond (!(decide (yi<0))) (some (.inl ((w64 ((w64 xb)+1)),se.2))) (some (.inl (se.1,(w64 xb))))) (some (.inr se.1))) big ((w64 ((w64 ((w64 xa)+m_2))-b_3)),(w64 xa))) λta=>
Zb (cond (decide (ta<m_2)) (some (decide (m_2<(w64 ((w64 ((w64 xa)+m_2))-ta))))) (some false)) λca=>
cond ca (Zb (zX data_0 ta m_2 (w64 ((w64 ((w64 xa)+m_2))-ta)) cmp_4) λya=>
Zb (cond (decide (a_1<ta)) (some (decide (ta<(w64 xa)))) (some false)) λcc=>
cond cc (Zb (rec ya a_1 ta (w64 xa) cmp_4) λyc=>
Zb (cond (decide ((w64 xa)<(w64 ((w64 ((w64 xa)+m_2))-ta)))) (some (decide ((w64 ((w64 ((w64 xa)+m_2))-ta))<b_3))) (some false)) λcd=>
cond cd (Zb (rec yc (w64 xa) (w64 ((w64 ((w64 xa)+m_2))-ta)) b_3 cmp_4) λyj=>
some yj) (some yc)) (Zb (cond (decide ((w64 xa)<(w64 ((w64 ((w64 xa)+m_2))-ta)))) (some (decide ((w64 ((w64 ((w64 xa)+m_2))-ta))<b_3))) (some false)) λce=>
cond ce (Zb (rec ya (w64 xa) (w64 ((w64 ((w64 xa)+m_2))-ta)) b_3 cmp_4) λyk=>
some yk) (some ya))) (Zb (cond (decide (a_1<ta)) (some (decide (ta<(w64 xa)))) (some false)) λcf=>
cond cf (Zb (rec data_0 a_1 ta (w64 xa) cmp_4) λyd=>
Zb (cond (decide ((w64 xa)<(w64 ((w64 ((w64 xa)+m_2))-ta)))) (some (decide ((w64 ((w64 ((w64 xa)+m_2))-ta))<b_3))) (some false)) λcg=>
cond cg (Zb (rec yd (w64 xa) (w64 ((w64 ((w64 xa)+m_2))-ta)) b_3 cmp_4) λyl=>
some yl) (some yd)) (Zb (cond (decide ((w64 xa)<(w64 ((w64 ((w64 xa)+m_2))-ta)))) (some (decide ((w64 ((w64 ((w64 xa)+m_2))-ta))<b_3))) (some false)) λch=>
cond ch (Zb (rec data_0 (w64 xa) (w64 ((w64 ((w64 xa)+m_2))-ta)) b_3 cmp_4) λym=>
some ym) (some data_0)))) (Zb (iter (σ:=(Int×Int)) (τ:=Int) (λsf=>
cond (decide (sf.1<sf.2)) (Zb (ziH .u64 (IntKind.u64.wrap (w64 (sf.1+sf.2))) 1) λxd=>
Zb (idx data_0 (w64 ((w64 ((w64 ((w64 xa)+m_2))-1))-(w64 xd)))) λxq=>
Zb (idx data_0 (w64 xd)) λxr=>
Zb (cmp_4 (xq,xr)) λyn=>
cond (!(decide (yn<0))) (some (.inl ((w64 ((w64 xd)+1)),sf.2))) (some (.inl (sf.1,(w64 xd))))) (some (.inr sf.1))) big (a_1,m_2)) λtb=>
Zb (cond (decide (tb<m_2)) (some (decide (m_2<(w64 ((w64 ((w64 xa)+m_2))-tb))))) (some false)) λci=>
cond ci (Zb (zX data_0 tb m_2 (w64 ((w64 ((w64 xa)+m_2))-tb)) cmp_4) λyb=>
Zb (cond (decide (a_1<tb)) (some (decide (tb<(w64 xa)))) (some false)) λcj=>
cond cj (Zb (rec yb a_1 tb (w64 xa) cmp_4) λye=>
Zb (cond (decide ((w64 xa)<(w64 ((w64 ((w64 xa)+m_2))-tb)))) (some (decide ((w64 ((w64 ((w64 xa)+m_2))-tb))<b_3))) (some false)) λck=>
cond ck (Zb (rec ye (w64 xa) (w64 ((w64 ((w64 xa)+m_2))-tb)) b_3 cmp_4) λyo=>
some yo) (some ye)) (Zb (cond (decide ((w64 xa)<(w64 ((w64 ((w64 xa)+m_2))-tb)))) (some (decide ((w64 ((w64 ((w64 xa)+m_2))-tb))<b_3))) (some false)) λcl=>
cond cl (Zb (rec yb (w64 xa) (w64 ((w64 ((w64 xa)+m_2))-tb)) b_3 cmp_4) λyp=>
some yp) (some yb))) (Zb (cond (decide (a_1<tb)) (some (decide (tb<(w64 xa)))) (some false)) λcm=>
cond cm (Zb (rec data_0 a_1 tb (w64 xa) cmp_4) λyf=>
Zb (cond (decide ((w64 xa)<(w64 ((w64 ((w64 xa)+m_2))-tb)))) (some (decide ((w64 ((w64 ((w64 xa)+m_2))-tb))<b_3))) (some false)) λcn=>
cond cn (Zb (rec yf (w64 xa) (w64 ((w64 ((w64 xa)+m_2))-tb)) b_3 cmp_4) λyq=>
some yq) (some yf)) (Zb (cond (decide ((w64 xa)<(w64 ((w64 ((w64 xa)+m_2))-tb)))) (some (decide ((w64 ((w64 ((w64 xa)+m_2))-tb))<b_3))) (some false)) λco=>
cond co (Zb (rec data_0 (w64 xa) (w64 ((w64 ((w64 xa)+m_2))-tb)) b_3 cmp_4) λyr=>
some yr) (some data_0))))))
def zp  :Nat->(List Trip)->Int->Int->Int->((Trip×Trip)->Option (Int))->Option (List Trip)
 | 0=>λ_ _ _ _ _=>none
 | k+1=>zm (zp k)
def zaP   (data_0:(List Trip)) (n_1:Int) (cmp_2:((Trip×Trip)->Option (Int))):Option (List Trip):=
Zb (iter (σ:=(Int×Int×(List Trip))) (τ:=(Int×(List Trip))) (λs7=>
cond (decide (s7.2.1<=n_1)) (Zb (zD s7.2.2 s7.1 s7.2.1 cmp_2) λya=>
some (.inl (s7.2.1,(w64 (s7.2.1+20)),ya))) (some (.inr (s7.1,s7.2.2)))) big (0,20,data_0)) λtb=>
Zb (zD tb.2 tb.1 n_1 cmp_2) λyb=>
Zb (iter (σ:=(Int×(List Trip))) (τ:=(List Trip)) (λsa=>
cond (decide (sa.1<n_1)) (Zb (iter (σ:=(Int×Int×(List Trip))) (τ:=(Int×(List Trip))) (λsb=>
cond (decide (sb.2.1<=n_1)) (Zb (zp big sb.2.2 sb.1 (w64 (sb.1+sa.1)) sb.2.1 cmp_2) λyc=>
some (.inl (sb.2.1,(w64 (sb.2.1+(w64 (2*sa.1)))),yc))) (some (.inr (sb.1,sb.2.2)))) big (0,(w64 (2*sa.1)),sa.2)) λta=>
cond (decide ((w64 (ta.1+sa.1))<n_1)) (Zb (zp big ta.2 ta.1 (w64 (ta.1+sa.1)) n_1 cmp_2) λyd=>
some (.inl ((w64 (sa.1*2)),yd))) (some (.inl ((w64 (sa.1*2)),ta.2)))) (some (.inr sa.2))) big (20,yb)) λtc=>
some tc
def zU   (x_0:(List Trip)) (cmp_1:((Trip×Trip)->Option (Int))):Option (List Trip):=
Zb (zaP x_0 (zq x_0) cmp_1) λy1=>
some y1
def zbC (order_0:((Trip×Trip)->Option (Int))) (l_1:(List (List Trip))):Option (List Trip):=
Zb (zaj l_1) λy1=>
Zb (zU y1 order_0) λy3=>
some y3
def zei (x_0:Int) (y_1:Int):Option (Int):=
Zb (za6 x_0) λy1=>
Zb (za6 y_1) λy2=>
cond y1 (cond y2 (some 0) (some (-1))) (cond y2 (some 1) (cond (decide (x_0<y_1)) (some (-1)) (cond (decide (x_0>y_1)) (some 1) (some 0))))
def zct (a_0:Trip) (b_1:Trip):Option (Int):=
Zb (zei a_0.2.2.2.1 b_1.2.2.2.1) λy1=>
some y1
def zc2 (p_0:Plan) (s_1:Service) (w_2:(List Works)) (from_3:Int) (until_4:Int):Option ((List Trip)×Int):=
Zb (zcr p_0 s_1) λy1=>
Zb (cond (!y1.2) (some true) (Zb (zcs p_0 w_2) λy9=>
cond (!y9) (some true) (Zb (zO from_3 0 until_4) λyc=>
cond (!yc) (some true) (some (decide (until_4>200000)))))) λc7=>
cond c7 (some ([],2)) (Zb (iter (σ:=((List (List Trip))×Int)) (τ:=(List (List Trip))) (λsb=>
cond (decide (sb.2<(zq y1.1))) (Zb (idx y1.1 sb.2) λxb=>
Zb (iter (σ:=((List (List Trip))×Int)) (τ:=(List (List Trip))) (λsa=>
cond (decide (sa.2<2)) (Zb (idx s_1.2.1 sb.2) λxd=>
Zb (idx s_1.2.2.1 sb.2) λxe=>
Zb (zak xb sa.2 xd xe from_3) λya=>
Zb (zF (σ:=(List Trip)) (τ:=(List Trip)) (λsc xa=>
Zb (zt xb sa.2) λyd=>
cond (decide ((w64 (xa.1+yd))>until_4)) (some (.inr sc)) (Zb (zau xb sa.2 xa.1 w_2) λye=>
cond ye (Zb (zda 32 sc ([((sb.2,(sa.2==1),xa.2,xa.1,()):Trip)])) λxf=>
some (.inl xf)) (some (.inl sc)))) ([]) ya.1 ya.2.1 ya.2.2.1 ya.2.2.2.1 ya.2.2.2.2) λta=>
alt (λba=>Zb (zda 24 sa.1 ([ba])) λxg=>
some (.inl (xg,(w64 (sa.2+1))))) (λbb=>Zb (zda 24 sa.1 ([bb])) λxh=>
some (.inl (xh,(w64 (sa.2+1))))) ta) (some (.inr sa.1))) big (sb.1,0)) λtb=>
some (.inl (tb,(w64 (sb.2+1))))) (some (.inr sb.1))) big ([],0)) λtc=>
Zb (zbC (λx=>zct x.1 x.2) tc) λyb=>
cond (decide ((zq yb)>5000)) (some ([],3)) (some (yb,0)))
def zbN (p_0:Plan) (s_1:Service) (from_2:Int) (until_3:Int):Option (Bool):=
Zb (Zb (zfi p_0 s_1) λy9=>
cond (!y9) (some true) (Zb (zc0 p_0 s_1) λye=>
cond (!ye) (some true) (cond (decide (from_2<0)) (some true) (cond (decide (from_2>until_3)) (some true) (cond (decide (until_3>200000)) (some true) (some (decide ((w64 (until_3-from_2))>3000)))))))) λc8=>
cond c8 (Zb zca λyf=>
some yf) (Zb (zc2 p_0 s_1 ([]) from_2 until_3) λyd=>
cond (yd.2 !=0) (some false) (Zb (iter (σ:=Int) (τ:=Unit⊕(Bool)) (λsb=>
cond (decide (sb<(zq s_1.1))) (Zb (idx s_1.1 sb) λxe=>
Zb (idx s_1.2.1 sb) λxh=>
Zb (zaX p_0 xe xh) λya=>
Zb (z9 p_0 xe false) λyb=>
Zb (z9 p_0 xe true) λyc=>
cond (ya.2 !=0) (some (.inr (.inr false))) (cond (yb.2 !=0) (some (.inr (.inr false))) (cond (yc.2 !=0) (some (.inr (.inr false))) (cond ((zq yb.1)==0) (some (.inr (.inr false))) (cond ((zq yc.1)==0) (some (.inr (.inr false))) (cond (decide (ya.1<1)) (some (.inr (.inr false))) (Zb (mkO 8 ya.1 (0:Int)) λxi=>
Zb (mkO 1 ya.1 (false:Bool)) λxj=>
Zb (mkO 1 ya.1 (false:Bool)) λxk=>
Zb (iter (σ:=(Int×(List Bool)×(List Bool)×(List Int))) (τ:=((List Bool)×(List Bool)×(List Int))⊕(Bool×(List Bool)×(List Bool)×(List Int))) (λsa=>
cond (decide (sa.1<(zq yd.1))) (Zb (idx yd.1 sa.1) λxa=>
cond (xa.1 !=sb) (cond (decide (xa.1<0)) (some (.inr (.inr (false,sa.2.1,sa.2.2.1,sa.2.2.2)))) (cond (decide (xa.1>=(zq s_1.1))) (some (.inr (.inr (false,sa.2.1,sa.2.2.1,sa.2.2.2)))) (some (.inl ((w64 (sa.1+1)),sa.2.1,sa.2.2.1,sa.2.2.2))))) (cond (decide (xa.2.2.1<0)) (some (.inr (.inr (false,sa.2.1,sa.2.2.1,sa.2.2.2)))) (cond (decide (xa.2.2.1>=ya.1)) (some (.inr (.inr (false,sa.2.1,sa.2.2.1,sa.2.2.2)))) (Zb (idx sa.2.2.1 xa.2.2.1) λxl=>
cond xl (Zb (idx sa.2.1 xa.2.2.1) λxm=>
cond (xa.2.1==xm) (some (.inr (.inr (false,sa.2.1,sa.2.2.1,sa.2.2.2)))) (Zb (idx sa.2.2.2 xa.2.2.1) λxn=>
cond (decide (xa.2.2.2.1<(w64 (xn+xe.2.2.2.2.1)))) (some (.inr (.inr (false,sa.2.1,sa.2.2.1,sa.2.2.2)))) (Zb (idx sa.2.2.1 xa.2.2.1) λxt=>
Zb (idx sa.2.1 xa.2.2.1) λxu=>
Zb (idx yb.1 (w64 ((zq yb.1)-1))) λxb=>
Zb (idx sa.2.2.2 xa.2.2.1) λxv=>
cond xa.2.1 (Zb (idx yc.1 (w64 ((zq yc.1)-1))) λxf=>
Zb (idx ((sa.2.2.2).set (Int.toNat xa.2.2.1) (w64 (xa.2.2.2.1+xb))) xa.2.2.1) λxw=>
cond (decide (xa.2.2.2.1<from_2)) (some (.inr (.inr (false,(sa.2.1).set (Int.toNat xa.2.2.1) xa.2.1,(sa.2.2.1).set (Int.toNat xa.2.2.1) true,((sa.2.2.2).set (Int.toNat xa.2.2.1) (w64 (xa.2.2.2.1+xb))).set (Int.toNat xa.2.2.1) (w64 (xa.2.2.2.1+xf)))))) (Zb (idx (((sa.2.2.2).set (Int.toNat xa.2.2.1) (w64 (xa.2.2.2.1+xb))).set (Int.toNat xa.2.2.1) (w64 (xa.2.2.2.1+xf))) xa.2.2.1) λxo=>
cond (decide (xo>until_3)) (some (.inr (.inr (false,(sa.2.1).set (Int.toNat xa.2.2.1) xa.2.1,(sa.2.2.1).set (Int.toNat xa.2.2.1) true,((sa.2.2.2).set (Int.toNat xa.2.2.1) (w64 (xa.2.2.2.1+xb))).set (Int.toNat xa.2.2.1) (w64 (xa.2.2.2.1+xf)))))) (some (.inl ((w64 (sa.1+1)),(sa.2.1).set (Int.toNat xa.2.2.1) xa.2.1,(sa.2.2.1).set (Int.toNat xa.2.2.1) true,((sa.2.2.2).set (Int.toNat xa.2.2.1) (w64 (xa.2.2.2.1+xb))).set (Int.toNat xa.2.2.1) (w64 (xa.2.2.2.1+xf))))))) (cond (decide (xa.2.2.2.1<from_2)) (some (.inr (.inr (false,(sa.2.1).set (Int.toNat xa.2.2.1) xa.2.1,(sa.2.2.1).set (Int.toNat xa.2.2.1) true,(sa.2.2.2).set (Int.toNat xa.2.2.1) (w64 (xa.2.2.2.1+xb)))))) (Zb (idx ((sa.2.2.2).set (Int.toNat xa.2.2.1) (w64 (xa.2.2.2.1+xb))) xa.2.2.1) λxp=>
cond (decide (xp>until_3)) (some (.inr (.inr (false,(sa.2.1).set (Int.toNat xa.2.2.1) xa.2.1,(sa.2.2.1).set (Int.toNat xa.2.2.1) true,(sa.2.2.2).set (Int.toNat xa.2.2.1) (w64 (xa.2.2.2.1+xb)))))) (some (.inl ((w64 (sa.1+1)),(sa.2.1).set (Int.toNat xa.2.2.1) xa.2.1,(sa.2.2.1).set (Int.toNat xa.2.2.1) true,(sa.2.2.2).set (Int.toNat xa.2.2.1) (w64 (xa.2.2.2.1+xb)))))))))) (Zb (idx sa.2.2.1 xa.2.2.1) λxx=>
Zb (idx sa.2.1 xa.2.2.1) λxy=>
Zb (idx yb.1 (w64 ((zq yb.1)-1))) λxd=>
Zb (idx sa.2.2.2 xa.2.2.1) λxz=>
cond xa.2.1 (Zb (idx yc.1 (w64 ((zq yc.1)-1))) λxg=>
Zb (idx ((sa.2.2.2).set (Int.toNat xa.2.2.1) (w64 (xa.2.2.2.1+xd))) xa.2.2.1) λxA=>
cond (decide (xa.2.2.2.1<from_2)) (some (.inr (.inr (false,(sa.2.1).set (Int.toNat xa.2.2.1) xa.2.1,(sa.2.2.1).set (Int.toNat xa.2.2.1) true,((sa.2.2.2).set (Int.toNat xa.2.2.1) (w64 (xa.2.2.2.1+xd))).set (Int.toNat xa.2.2.1) (w64 (xa.2.2.2.1+xg)))))) (Zb (idx (((sa.2.2.2).set (Int.toNat xa.2.2.1) (w64 (xa.2.2.2.1+xd))).set (Int.toNat xa.2.2.1) (w64 (xa.2.2.2.1+xg))) xa.2.2.1) λxq=>
cond (decide (xq>until_3)) (some (.inr (.inr (false,(sa.2.1).set (Int.toNat xa.2.2.1) xa.2.1,(sa.2.2.1).set (Int.toNat xa.2.2.1) true,((sa.2.2.2).set (Int.toNat xa.2.2.1) (w64 (xa.2.2.2.1+xd))).set (Int.toNat xa.2.2.1) (w64 (xa.2.2.2.1+xg)))))) (some (.inl ((w64 (sa.1+1)),(sa.2.1).set (Int.toNat xa.2.2.1) xa.2.1,(sa.2.2.1).set (Int.toNat xa.2.2.1) true,((sa.2.2.2).set (Int.toNat xa.2.2.1) (w64 (xa.2.2.2.1+xd))).set (Int.toNat xa.2.2.1) (w64 (xa.2.2.2.1+xg))))))) (cond (decide (xa.2.2.2.1<from_2)) (some (.inr (.inr (false,(sa.2.1).set (Int.toNat xa.2.2.1) xa.2.1,(sa.2.2.1).set (Int.toNat xa.2.2.1) true,(sa.2.2.2).set (Int.toNat xa.2.2.1) (w64 (xa.2.2.2.1+xd)))))) (Zb (idx ((sa.2.2.2).set (Int.toNat xa.2.2.1) (w64 (xa.2.2.2.1+xd))) xa.2.2.1) λxr=>
cond (decide (xr>until_3)) (some (.inr (.inr (false,(sa.2.1).set (Int.toNat xa.2.2.1) xa.2.1,(sa.2.2.1).set (Int.toNat xa.2.2.1) true,(sa.2.2.2).set (Int.toNat xa.2.2.1) (w64 (xa.2.2.2.1+xd)))))) (some (.inl ((w64 (sa.1+1)),(sa.2.1).set (Int.toNat xa.2.2.1) xa.2.1,(sa.2.2.1).set (Int.toNat xa.2.2.1) true,(sa.2.2.2).set (Int.toNat xa.2.2.1) (w64 (xa.2.2.2.1+xd)))))))))))) (some (.inr (.inl (sa.2.1,sa.2.2.1,sa.2.2.2))))) big (0,xk,xj,xi)) λta=>
alt (λbc=>some (.inl (w64 (sb+1)))) (λba=>some (.inr (.inr ba.1))) ta))))))) (some (.inr (.inl ())))) big 0) λtb=>
alt (λbd=>Zb zca λyg=>
some yg) (λbb=>some bb) tb))
end Go.Ai.Sx