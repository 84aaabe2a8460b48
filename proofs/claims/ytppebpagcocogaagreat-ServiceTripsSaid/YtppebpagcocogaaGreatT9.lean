/- Written by program: the data of the functions,and the functions as plain Lean. -/
import Derived.Test.YtppebpagcocogaaGreatT7
set_option linter.unusedSimpArgs false
set_option linter.unusedVariables false
set_option linter.unusedSectionVars false
namespace Go.Ai.Sx
open Option renaming bind->Zb,bind_some->Zs
abbrev Spot:Type:=Int×Int×Unit
abbrev zm:Type:=Int×Bool×Unit
abbrev zcc:Type:=Spot×Int×(List zm)×Int×Unit
abbrev Rail:Type:=Int×Int×(List Spot)×Int×Int×Unit
abbrev Plan:Type:=(List zcc)×(List Rail)×Unit
abbrev zL:Type:=Int×Bool×Unit
abbrev Course:Type:=(List zL)×(List Int)×(List Int)×Unit
abbrev Train:Type:=Int×Int×Int×Int×Int×Int×Int×Int×Int×(List Int)×Unit
abbrev Line:Type:=Course×Course×Train×Int×Int×Unit
abbrev zbe:Type:=Plan×(List Int)×(List (zm×Int))×Unit
abbrev ziS:Type:=Plan×Unit×zd×Unit
abbrev zaC:Type:=zcc×Unit
abbrev zav:Type:=Train×Int×Unit
abbrev zaB:Type:=zav×(List zL)×(List Int)×(List Int)×(List Int)×(List Int)×Unit
abbrev zko:Type:=zav×(List zL)×Unit×Unit×Unit×(List Int)×Unit
abbrev zb:Type:=Int×Int×Unit
abbrev zac:Type:=Int×Int×Int×Int×Int×Int×Unit
abbrev zbd:Type:=zb×zac×Int×Int×Unit
abbrev Leg:Type:=Int×Int×zac×Int×Int×Unit
abbrev zn:Type:=Line×(List (List Int))×(List (List Int))×Unit
abbrev zag:Type:=Plan×(List zL)×Train×Int×Int×Unit
abbrev Cover:Type:=Int×Int×Int×Unit
abbrev Service:Type:=(List Line)×(List Int)×(List Int)×Unit
abbrev Connection:Type:=Int×Bool×Int×Int×Bool×Int×Int×Int×Unit
abbrev Works:Type:=Int×Int×Int×Unit
abbrev Trip:Type:=Int×Bool×Int×Int×Unit
abbrev zco:Rep Spot:=(zT (zj .i64) (zT (zj .i64) zdj))
abbrev z5:Rep zm:=(zT (zj .i64) (zT zaH zdj))
abbrev zbZ:Rep zcc:=(zT zco (zT (zj .i64) (zT (zf z5) (zT (zj .i64) zdj))))
abbrev zdZ:Rep Rail:=(zT (zj .i64) (zT (zj .i64) (zT (zf zco) (zT (zj .i64) (zT (zj .i64) zdj)))))
abbrev zaZ:Rep Plan:=(zT (zf zbZ) (zT (zf zdZ) zdj))
abbrev zO:Rep zL:=(zT (zj .i64) (zT zaH zdj))
abbrev zcB:Rep Course:=(zT (zf zO) (zT (zf (zj .i64)) (zT (zf (zj .i64)) zdj)))
abbrev zbJ:Rep Train:=(zT (zj .i64) (zT (zj .i64) (zT (zj .i64) (zT (zj .i64) (zT (zj .i64) (zT (zj .i64) (zT (zj .i64) (zT (zj .i64) (zT (zj .i64) (zT (zf (zj .i64)) zdj))))))))))
abbrev zcs:Rep Line:=(zT zcB (zT zcB (zT zbJ (zT (zj .i64) (zT (zj .i64) zdj)))))
abbrev zak:Rep zbe:=(zT zaZ (zT (zf (zj .i64)) (zT (zqe z5 (zj .i64)) zdj)))
abbrev zin:Rep ziS:=(zT zaZ (zT ztN (zT zxx zdj)))
abbrev zay:Rep zaC:=(zT zbZ zdj)
abbrev zQ:Rep zav:=(zT zbJ (zT (zj .i64) zdj))
abbrev zaD:Rep zaB:=(zT (zaG zQ) (zT (zf zO) (zT (zf (zj .i64)) (zT (zf (zj .i64)) (zT (zf (zj .i64)) (zT (zf (zj .i64)) zdj))))))
abbrev zjS:Rep zko:=(zT (zaG zQ) (zT (zf zO) (zT ztN (zT ztN (zT ztN (zT (zf (zj .i64)) zdj))))))
abbrev zw:Rep zb:=(zT (zj .i64) (zT (zj .i64) zdj))
abbrev zC:Rep zac:=(zT (zj .i64) (zT (zj .i64) (zT (zj .i64) (zT (zj .i64) (zT (zj .i64) (zT (zj .i64) zdj))))))
abbrev zaV:Rep zbd:=(zT zw (zT zC (zT (zj .i64) (zT (zj .i64) zdj))))
abbrev zf2:Rep Leg:=(zT (zj .i64) (zT (zj .i64) (zT zC (zT (zj .i64) (zT (zj .i64) zdj)))))
theorem ztS:FOk zf2 0 (zj .i64) (λx=>x.1) (λx y=>(y,x.2.1,x.2.2.1,x.2.2.2.1,x.2.2.2.2.1,())):=FOk.off FOk.here rfl
abbrev zi:Rep zn:=(zT zcs (zT (zjD 2 (zf (zj .i64))) (zT (zjD 2 (zf (zj .i64))) zdj)))
abbrev zap:Rep zag:=(zT zaZ (zT (zf zO) (zT zbJ (zT (zj .i64) (zT (zj .i64) zdj)))))
abbrev zgE:Rep Cover:=(zT (zj .i64) (zT (zj .i64) (zT (zj .i64) zdj)))
theorem zp1:FOk zgE 0 (zj .i64) (λx=>x.1) (λx y=>(y,x.2.1,x.2.2.1,())):=FOk.off FOk.here rfl
abbrev zcb:Rep Service:=(zT (zf zcs) (zT (zf (zj .i64)) (zT (zf (zj .i64)) zdj)))
abbrev zbs:Rep Works:=(zT (zj .i64) (zT (zj .i64) (zT (zj .i64) zdj)))
abbrev zp:Rep Trip:=(zT (zj .i64) (zT zaH (zT (zj .i64) (zT (zj .i64) zdj))))
theorem zbK {x:zac}:Cells zC x [.val (zj .i64) x.1,.val (zj .i64) x.2.1,.val (zj .i64) x.2.2.1,.val (zj .i64) x.2.2.2.1,.val (zj .i64) x.2.2.2.2.1,.val (zj .i64) x.2.2.2.2.2.1]:=(zA (zE rfl) (zA (zE rfl) (zA (zE rfl) (zA (zE rfl) (zA (zE rfl) (zA (zE rfl) zcd rfl) rfl) rfl) rfl) rfl) rfl)
theorem zhd {x:zb}:Cells zw x [.val (zj .i64) x.1,.val (zj .i64) x.2.1]:=(zA (zE rfl) (zA (zE rfl) zcd rfl) rfl)
def zdw:List Int:=[0,1,2,2,3,3,3,3,4,4,4,4,4,4,4,4,5,5,5,5,5,5,5,5,5,5,5,5,5,5,5,5,6,6,6,6,6,6,6,6,6,6,6,6,6,6,6,6,6,6,6,6,6,6,6,6,6,6,6,6,6,6,6,6,7,7,7,7,7,7,7,7,7,7,7,7,7,7,7,7,7,7,7,7,7,7,7,7,7,7,7,7,7,7,7,7,7,7,7,7,7,7,7,7,7,7,7,7,7,7,7,7,7,7,7,7,7,7,7,7,7,7,7,7,7,7,7,7,8,8,8,8,8,8,8,8,8,8,8,8,8,8,8,8,8,8,8,8,8,8,8,8,8,8,8,8,8,8,8,8,8,8,8,8,8,8,8,8,8,8,8,8,8,8,8,8,8,8,8,8,8,8,8,8,8,8,8,8,8,8,8,8,8,8,8,8,8,8,8,8,8,8,8,8,8,8,8,8,8,8,8,8,8,8,8,8,8,8,8,8,8,8,8,8,8,8,8,8,8,8,8,8,8,8,8,8,8,8,8,8,8,8,8,8,8,8,8,8,8,8,8,8,8,8,8,8]
def zaj (n_0:Int) (low_1:Int) (high_2:Int):Option (Bool):=
Zb (cond (decide (n_0>=low_1)) (some (decide (n_0<=high_2))) (some false)) λc2=>
some c2
def zbn (s_0:Spot):Option (Bool):=
Zb (Zb (zaj s_0.1 (-10000000) 10000000) λy5=>
cond y5 (Zb (zaj s_0.2.1 (-10000000) 10000000) λy7=>
some y7) (some false)) λc4=>
some c4
def zaL (k_0:Int):Option (Int):=
cond (k_0==1) (some 1) (cond (k_0==2) (some 2) (cond (k_0==3) (some 4) (cond (k_0==4) (cond (k_0==4) (some 3) (some 0)) (cond (k_0==5) (cond (k_0==5) (some 3) (some 0)) (cond (k_0==6) (some 3) (some 0))))))
def zc9 (p_0:Plan) (rail_1:Int):Option (List Spot):=
Zb (idx p_0.2.1 rail_1) λx1=>
Zb (idx p_0.1 x1.1) λx3=>
Zb (zcY 16 ([x3.1]) x1.2.2.1) λx5=>
Zb (idx p_0.1 x1.2.1) λx7=>
Zb (zcY 16 x5 ([x7.1])) λx8=>
some x8
def zeE (n_0:Int):Option (Int):=
Zb (iter (σ:=(Int×Int)) (τ:=Int) (λs4=>
cond (decide ((w64 (s4.2-s4.1))>1)) (Zb (zcr .i64 (w64 (s4.1+s4.2)) 2) λx7=>
cond (decide ((w64 (x7*x7))<=n_0)) (some (.inl (x7,s4.2))) (some (.inl (s4.1,x7)))) (some (.inr s4.1))) big (0,30000000)) λt9=>
some t9
def zda (a_0:Spot) (b_1:Spot):Option (Int):=
Zb (zeE (w64 ((w64 ((w64 (a_0.1-b_1.1))*(w64 (a_0.1-b_1.1))))+(w64 ((w64 (a_0.2.1-b_1.2.1))*(w64 (a_0.2.1-b_1.2.1))))))) λy1=>
some y1
def ze7 (p_0:Plan) (e_1:zm):Option (Int):=
cond e_1.2.1 (Zb (idx p_0.2.1 e_1.1) λx2=>
some x2.2.1) (Zb (idx p_0.2.1 e_1.1) λx3=>
some x3.1)
def zcP (p_0:Plan):Option (Bool):=
Zb (Zb (zaj (zr p_0.1) 1 300) λy5=>
cond (!y5) (some true) (Zb (zaj (zr p_0.2.1) 1 400) λy7=>
some (!y7))) λc4=>
cond c4 (some false) (Zb (iter (σ:=Int) (τ:=Unit⊕(Bool)) (λsc=>
cond (decide (sc<(zr p_0.1))) (Zb (idx p_0.1 sc) λxa=>
cond (xa.2.1==5) (Zb (zaj xa.2.2.2.1 1 2) λyb=>
Zb (zbn xa.1) λyc=>
cond (!yc) (some (.inr (.inr false))) (Zb (zaL xa.2.1) λyd=>
cond (yd==0) (some (.inr (.inr false))) (Zb (zaL xa.2.1) λye=>
cond ((zr xa.2.2.1)!=ye) (some (.inr (.inr false))) (cond (!yb) (some (.inr (.inr false))) (some (.inl (w64 (sc+1)))))))) (cond (xa.2.1==6) (Zb (zaj xa.2.2.2.1 1 2) λyf=>
Zb (zbn xa.1) λyg=>
cond (!yg) (some (.inr (.inr false))) (Zb (zaL xa.2.1) λyh=>
cond (yh==0) (some (.inr (.inr false))) (Zb (zaL xa.2.1) λyi=>
cond ((zr xa.2.2.1)!=yi) (some (.inr (.inr false))) (cond (!yf) (some (.inr (.inr false))) (some (.inl (w64 (sc+1)))))))) (Zb (zbn xa.1) λyj=>
cond (!yj) (some (.inr (.inr false))) (Zb (zaL xa.2.1) λyk=>
cond (yk==0) (some (.inr (.inr false))) (Zb (zaL xa.2.1) λyl=>
cond ((zr xa.2.2.1)!=yl) (some (.inr (.inr false))) (cond (!(xa.2.2.2.1==0)) (some (.inr (.inr false))) (some (.inl (w64 (sc+1)))))))))) (some (.inr (.inl ())))) big 0) λta=>
alt (λbj=>Zb (iter (σ:=Int) (τ:=Unit⊕(Bool)) (λsd=>
cond (decide (sd<(zr p_0.2.1))) (Zb (idx p_0.2.1 sd) λxb=>
Zb (zaj xb.1 0 (w64 ((zr p_0.1)-1))) λym=>
cond (!ym) (some (.inr (.inr false))) (Zb (zaj xb.2.1 0 (w64 ((zr p_0.1)-1))) λyn=>
cond (!yn) (some (.inr (.inr false))) (cond (decide ((zr xb.2.2.1)>30)) (some (.inr (.inr false))) (Zb (zaj xb.2.2.2.1 1 50000) λyo=>
cond (!yo) (some (.inr (.inr false))) (Zb (zaj xb.2.2.2.2.1 (-120) 120) λyp=>
cond (!yp) (some (.inr (.inr false))) (Zb (iter (σ:=Int) (τ:=Unit⊕(Bool)) (λsf=>
cond (decide (sf<(zr xb.2.2.1))) (Zb (idx xb.2.2.1 sf) λxe=>
Zb (zbn xe) λyq=>
cond (!yq) (some (.inr (.inr false))) (some (.inl (w64 (sf+1))))) (some (.inr (.inl ())))) big 0) λtb=>
alt (λbk=>Zb (zc9 p_0 sd) λya=>
Zb (iter (σ:=Int) (τ:=Unit⊕(Bool)) (λse=>
cond (decide (se<(zr ya))) (Zb (idx ya (w64 (se-1))) λxf=>
Zb (idx ya se) λxg=>
Zb (zda xf xg) λyr=>
Zb (zaj yr 1 1000000) λys=>
cond (!ys) (some (.inr (.inr false))) (some (.inl (w64 (se+1))))) (some (.inr (.inl ())))) big 1) λtc=>
alt (λbl=>some (.inl (w64 (sd+1)))) (λba=>some (.inr (.inr ba))) tc) (λbb=>some (.inr (.inr bb))) tb)))))) (some (.inr (.inl ())))) big 0) λtd=>
alt (λbm=>Zb (iter (σ:=((List zm)×Int)) (τ:=(List zm)⊕(Bool)) (λsa=>
cond (decide (sa.2<(zr p_0.1))) (Zb (iter (σ:=((List zm)×Int)) (τ:=(List zm)⊕(Bool)) (λsb=>
Zb (idx p_0.1 sa.2) λxh=>
cond (decide (sb.2<(zr xh.2.2.1))) (Zb (idx p_0.1 sa.2) λxi=>
Zb (idx xi.2.2.1 sb.2) λxd=>
Zb (zaj xd.1 0 (w64 ((zr p_0.2.1)-1))) λyt=>
cond (!yt) (some (.inr (.inr false))) (Zb (ze7 p_0 xd) λyu=>
cond (yu !=sa.2) (some (.inr (.inr false))) (Zb (iter (σ:=Int) (τ:=Unit⊕(Bool)) (λsg=>
cond (decide (sg<(zr sb.1))) (Zb (idx sb.1 sg) λxj=>
cond (xj==xd) (some (.inr (.inr false))) (some (.inl (w64 (sg+1))))) (some (.inr (.inl ())))) big 0) λte=>
alt (λbn=>Zb (zcY 16 sb.1 ([xd])) λxk=>
some (.inl (xk,(w64 (sb.2+1))))) (λbc=>some (.inr (.inr bc))) te))) (some (.inr (.inl sb.1)))) big (sa.1,0)) λtf=>
alt (λbd=>some (.inl (bd,(w64 (sa.2+1))))) (λbe=>some (.inr (.inr be))) tf) (some (.inr (.inl sa.1)))) big ([],0)) λtg=>
alt (λbf=>some ((zr bf)==(w64 (2*(zr p_0.2.1))))) (λbg=>some bg) tg) (λbh=>some bh) td) (λbi=>some bi) ta)
def zaI (p_0:Plan) (rail_1:Int):Option (Int):=
Zb (zc9 p_0 rail_1) λy1=>
Zb (iter (σ:=(Int×Int)) (τ:=Int) (λsa=>
cond (decide (sa.2<(zr y1))) (Zb (idx y1 (w64 (sa.2-1))) λxa=>
Zb (idx y1 sa.2) λxb=>
Zb (zda xa xb) λya=>
some (.inl ((w64 (sa.1+ya)),(w64 (sa.2+1))))) (some (.inr sa.1))) big (0,1)) λta=>
some ta
def zd7 (p_0:Plan):Option (Bool):=
Zb (cond (decide ((zr p_0.1)>12)) (some true) (some (decide ((zr p_0.2.1)>12)))) λc2=>
cond c2 (some false) (Zb (iter (σ:=Int) (τ:=Unit⊕(Bool)) (λs8=>
cond (decide (s8<(zr p_0.1))) (Zb (idx p_0.1 s8) λxa=>
cond (decide ((zr xa.2.2.1)>6)) (some (.inr (.inr false))) (some (.inl (w64 (s8+1))))) (some (.inr (.inl ())))) big 0) λta=>
alt (λbc=>Zb (iter (σ:=Int) (τ:=Unit⊕(Bool)) (λsb=>
cond (decide (sb<(zr p_0.2.1))) (Zb (idx p_0.2.1 sb) λxb=>
cond (decide ((zr xb.2.2.1)>10)) (some (.inr (.inr false))) (some (.inl (w64 (sb+1))))) (some (.inr (.inl ())))) big 0) λtb=>
alt (λbd=>Zb (zcP p_0) λya=>
cond ya (Zb (iter (σ:=(Int×Int)) (τ:=Int) (λsa=>
cond (decide (sa.2<(zr p_0.2.1))) (Zb (zaI p_0 sa.2) λyb=>
some (.inl ((w64 (sa.1+yb)),(w64 (sa.2+1))))) (some (.inr sa.1))) big (0,0)) λtc=>
some (decide (tc<=200000))) (some (decide (0<=200000)))) (λba=>some ba) tb) (λbb=>some bb) ta)
def zcQ (l_0:Line):Option (Bool):=
Zb (cond (decide ((zr l_0.1.1)<=12)) (cond (decide ((zr l_0.2.1.1)<=12)) (cond (decide ((zr l_0.1.2.1)<=6)) (cond (decide ((zr l_0.2.1.2.1)<=6)) (cond (decide ((zr l_0.1.2.2.1)<=8)) (cond (decide ((zr l_0.2.1.2.2.1)<=8)) (cond (decide ((zr l_0.2.2.1.2.2.2.2.2.2.2.2.2.1)<=10)) (cond (decide (l_0.2.2.1.2.2.2.2.1>=200)) (cond (decide (l_0.2.2.1.2.2.2.1>=200)) (some (decide (l_0.2.2.1.1<=4000))) (some false)) (some false)) (some false)) (some false)) (some false)) (some false)) (some false)) (some false)) (some false)) λca=>
some ca
def zX (x_0:Int) (low_1:Int) (high_2:Int):Option (Bool):=
Zb (cond (decide (x_0>=low_1)) (some (decide (x_0<=high_2))) (some false)) λc2=>
some c2
def zY (x_0:Int) (low_1:Int) (high_2:Int):Option (Bool):=
Zb (cond (decide (x_0>=low_1)) (some (decide (x_0<=high_2))) (some false)) λc2=>
some c2
def zaz (s_0:(List zcc)) (f_1:((zcc)->Option (Bool))):Option (Int):=
Zb (iter (σ:=Int) (τ:=Unit⊕(Int)) (λs5=>
cond (decide (s5<(zr s_0))) (Zb (idx s_0 s5) λx8=>
Zb (f_1 x8) λy9=>
cond y9 (some (.inr (.inr s5))) (some (.inl (w64 (s5+1))))) (some (.inr (.inl ())))) big 0) λta=>
alt (λbb=>some (-1)) (λba=>some ba) ta
def zaq (s_0:(List zcc)) (f_1:((zcc)->Option (Bool))):Option (Bool):=
Zb (zaz s_0 f_1) λy1=>
some (decide (y1>=0))
def zcJ (s_0:Spot):Option (Bool):=
Zb (Zb (zY s_0.1 (-10000000) 10000000) λy5=>
cond y5 (Zb (zY s_0.2.1 (-10000000) 10000000) λy7=>
some y7) (some false)) λc4=>
some c4
def zeY :Option (List Int):=
some (List.replicate 1 0++([1,2,4,3,3,3]:(List Int)))
def zeF (n_0:zcc):Option (Bool):=
Zb (cond (decide (n_0.2.1<1)) (some true) (cond (decide (n_0.2.1>6)) (some true) (Zb (zcJ n_0.1) λya=>
cond (!ya) (some true) (Zb zeY λyb=>
Zb (idx yb n_0.2.1) λxa=>
some ((zr n_0.2.2.1)!=xa))))) λca=>
cond ca (some false) (Zb (cond (n_0.2.1==5) (some true) (some (n_0.2.1==6))) λcc=>
cond cc (Zb (zY n_0.2.2.2.1 1 2) λyc=>
some yc) (some (n_0.2.2.2.1==0)))
def zfl (n_0:zcc):Option (Bool):=
Zb (zeF n_0) λy1=>
some (!y1)
def zaA (s_0:(List Rail)) (f_1:((Rail)->Option (Bool))):Option (Int):=
Zb (iter (σ:=Int) (τ:=Unit⊕(Int)) (λs5=>
cond (decide (s5<(zr s_0))) (Zb (idx s_0 s5) λx8=>
Zb (f_1 x8) λy9=>
cond y9 (some (.inr (.inr s5))) (some (.inl (w64 (s5+1))))) (some (.inr (.inl ())))) big 0) λta=>
alt (λbb=>some (-1)) (λba=>some ba) ta
def zar (s_0:(List Rail)) (f_1:((Rail)->Option (Bool))):Option (Bool):=
Zb (zaA s_0 f_1) λy1=>
some (decide (y1>=0))
def zax (n_1:Int):Option (List Spot):=
cond (decide (n_1<0)) none (cond (decide ((w64 (n_1-(w64 (0-0))))>0)) (Zb (zn7 16 (w64 (n_1-(w64 (0-0)))) ((0,0,()):Spot)) λx3=>
Zb (slz x3) λx5=>
some ([]:List Spot)) (some ([])))
def zas (slices_0:(List (List Spot))):Option (List Spot):=
Zb (iter (σ:=(Int×Int)) (τ:=Int) (λs4=>
cond (decide (s4.2<(zr slices_0))) (Zb (idx slices_0 s4.2) λx7=>
cond (decide ((w64 (s4.1+(zr x7)))<0)) none (some (.inl ((w64 (s4.1+(zr x7))),(w64 (s4.2+1)))))) (some (.inr s4.1))) big (0,0)) λt9=>
Zb (zax t9) λya=>
Zb (iter (σ:=((List Spot)×Int)) (τ:=(List Spot)) (λsa=>
cond (decide (sa.2<(zr slices_0))) (Zb (idx slices_0 sa.2) λxa=>
Zb (zcY 16 sa.1 xa) λxb=>
some (.inl (xb,(w64 (sa.2+1))))) (some (.inr sa.1))) big (ya,0)) λta=>
some ta
def zdU (p_0:Plan) (r_1:Rail):Option (List Spot):=
Zb (idx p_0.1 r_1.1) λx5=>
Zb (idx p_0.1 r_1.2.1) λx6=>
Zb (zas ([[x5.1],r_1.2.2.1,[x6.1]])) λy7=>
some y7
def zeG (n_0:Int):Option (Int):=
Zb (FloatKind.f64.format.sqrt (FloatKind.f64.nearest n_0)) λx1=>
Zb (f2i x1) λx2=>
Zb (iter (σ:=Int) (τ:=Int) (λs4=>
cond (decide ((w64 (s4*s4))>n_0)) (some (.inl (w64 (s4-1)))) (some (.inr s4))) big x2) λt7=>
Zb (iter (σ:=Int) (τ:=Int) (λsa=>
cond (decide ((w64 ((w64 (sa+1))*(w64 (sa+1))))<=n_0)) (some (.inl (w64 (sa+1)))) (some (.inr sa))) big t7) λta=>
some ta
def zcK (a_0:Spot) (b_1:Spot):Option (Int):=
Zb (zeG (w64 ((w64 ((w64 (a_0.1-b_1.1))*(w64 (a_0.1-b_1.1))))+(w64 ((w64 (a_0.2.1-b_1.2.1))*(w64 (a_0.2.1-b_1.2.1))))))) λy1=>
some y1
def zeH (p_0:Plan) (r_1:Rail):Option (Bool):=
Zb (Zb (zY r_1.1 0 (w64 ((zr p_0.1)-1))) λyb=>
cond (!yb) (some true) (Zb (zY r_1.2.1 0 (w64 ((zr p_0.1)-1))) λyc=>
cond (!yc) (some true) (cond (decide ((zr r_1.2.2.1)>30)) (some true) (Zb (zY r_1.2.2.2.1 1 50000) λyd=>
cond (!yd) (some true) (Zb (zY r_1.2.2.2.2.1 (-120) 120) λye=>
some (!ye)))))) λc9=>
cond c9 (some false) (Zb (zdU p_0 r_1) λya=>
Zb (iter (σ:=Int) (τ:=Unit⊕(Bool)) (λsa=>
cond (decide (sa<(zr ya))) (Zb (idx ya sa) λxa=>
Zb (zcJ xa) λyf=>
cond (!yf) (some (.inr (.inr false))) (cond (decide (sa>0)) (Zb (idx ya (w64 (sa-1))) λxb=>
Zb (zcK xb xa) λyg=>
Zb (zY yg 1 1000000) λyh=>
cond (!yh) (some (.inr (.inr false))) (some (.inl (w64 (sa+1))))) (some (.inl (w64 (sa+1)))))) (some (.inr (.inl ())))) big 0) λta=>
alt (λbb=>some true) (λba=>some ba) ta)
def zd8 (r_0:Rail) (p_1:Plan):Option (Bool):=
Zb (zeH p_1 r_0) λy1=>
some (!y1)
def zcp (p_0:Plan) (e_1:zm):Option (Int):=
cond e_1.2.1 (Zb (idx p_0.2.1 e_1.1) λx2=>
some x2.2.1) (Zb (idx p_0.2.1 e_1.1) λx3=>
some x3.1)
def zdn (p_0:Plan):Option (Int):=
Zb (Zb (zY (zr p_0.1) 1 300) λy5=>
cond (!y5) (some true) (Zb (zY (zr p_0.2.1) 1 400) λy7=>
some (!y7))) λc4=>
cond c4 (some 2) (Zb (Zb (zaq p_0.1 (λx=>zfl x)) λya=>
cond ya (some true) (Zb (zar p_0.2.1 (λx=>zd8 x p_0)) λyb=>
some yb)) λca=>
cond ca (some 2) (Zb (iter (σ:=(Int×(List (zm×Bool)))) (τ:=(List (zm×Bool))⊕(Int)) (λsb=>
cond (decide (sb.1<(zr p_0.1))) (Zb (idx p_0.1 sb.1) λxb=>
Zb (iter (σ:=(Int×(List (zm×Bool)))) (τ:=(List (zm×Bool))⊕(Int×(List (zm×Bool)))) (λsa=>
cond (decide (sa.1<(zr xb.2.2.1))) (Zb (idx xb.2.2.1 sa.1) λxa=>
Zb (zY xa.1 0 (w64 ((zr p_0.2.1)-1))) λyc=>
cond (!yc) (some (.inr (.inr (2,sa.2)))) (cond ((mget sa.2 xa).getD false) (some (.inr (.inr (2,sa.2)))) (Zb (zcp p_0 xa) λyd=>
cond (yd !=sb.1) (some (.inr (.inr (2,sa.2)))) (some (.inl ((w64 (sa.1+1)),(mset sa.2 xa true))))))) (some (.inr (.inl sa.2)))) big (0,sb.2)) λta=>
alt (λba=>some (.inl ((w64 (sb.1+1)),ba))) (λbb=>some (.inr (.inr bb.1))) ta) (some (.inr (.inl sb.2)))) big (0,([]:(List (zm×Bool))))) λtb=>
alt (λbc=>Zb (ztR bc) λxd=>
cond (xd !=(w64 (2*(zr p_0.2.1)))) (some 2) (some 0)) (λbd=>some bd) tb))
def zby (l_0:Line):Option (List Course):=
some ([l_0.1,l_0.2.1]:(List Course))
def zdV (p_0:Plan):Option ((Option zbe)×Bool):=
Zb (zdn p_0) λy1=>
cond (y1 !=0) (some ((none:Option zbe),false)) (Zb (iter (σ:=(Int×(List Int))) (τ:=(List Int)) (λsc=>
cond (decide (sc.1<(zr p_0.2.1))) (Zb (idx p_0.2.1 sc.1) λxb=>
Zb (zdU p_0 xb) λya=>
Zb (iter (σ:=(Int×Int)) (τ:=Int) (λsa=>
cond (decide (sa.2<(zr ya))) (Zb (idx ya (w64 (sa.2-1))) λxd=>
Zb (idx ya sa.2) λxe=>
Zb (zcK xd xe) λyb=>
some (.inl ((w64 (sa.1+yb)),(w64 (sa.2+1))))) (some (.inr sa.1))) big (0,1)) λta=>
Zb (zcY 8 sc.2 ([ta])) λxf=>
some (.inl ((w64 (sc.1+1)),xf))) (some (.inr sc.2))) big (0,[])) λtb=>
Zb (iter (σ:=(Int×(List (zm×Int)))) (τ:=(List (zm×Int))) (λsd=>
cond (decide (sd.1<(zr p_0.1))) (Zb (idx p_0.1 sd.1) λxa=>
Zb (iter (σ:=(Int×(List (zm×Int)))) (τ:=(List (zm×Int))) (λsb=>
cond (decide (sb.1<(zr xa.2.2.1))) (Zb (idx xa.2.2.1 sb.1) λxg=>
some (.inl ((w64 (sb.1+1)),(mset sb.2 xg sb.1)))) (some (.inr sb.2))) big (0,sd.2)) λtc=>
some (.inl ((w64 (sd.1+1)),tc))) (some (.inr sd.2))) big (0,([]:(List (zm×Int))))) λtd=>
some ((some ((p_0.1,p_0.2.1,()),tb,td,())),true))
def zbz (n_0:zbe) (m_1:zL):Option (Bool):=
Zb (zY m_1.1 0 (w64 ((zr n_0.1.2.1)-1))) λy2=>
some y2
def zd9 (m_0:zL):Option (zm):=
some ((m_0.1,(!m_0.2.1),()):zm)
def zfm (p_0:zaC) (from_1:Int) (to_2:Int):Option (Bool):=
some false
def zeI (p_0:zaC) (from_1:Int) (to_2:Int):Option (Bool):=
some (from_1 !=to_2)
def zbL (p_0:zaC) (from_1:Int) (to_2:Int):Option (Bool):=
Zb (cond (from_1 !=to_2) (Zb (zn3 (w64 (from_1+to_2)) 2) λx5=>
some (x5==0)) (some false)) λc3=>
some c3
def zb7 (p_0:zaC) (from_1:Int) (to_2:Int):Option (Bool):=
Zb (cond (from_1 !=to_2) (cond (from_1==0) (some true) (some (to_2==0))) (some false)) λc3=>
some c3
def zbt (x_0:zaC) (from_1:Int) (to_2:Int):Option (Bool):=
Zb (cond (from_1 !=0) (cond (to_2==0) (some true) (cond (from_1==0) (some (to_2==x_0.1.2.2.2.1)) (some false))) (cond (from_1==0) (some (to_2==x_0.1.2.2.2.1)) (some false))) λc5=>
some c5
def zbu (x_0:zaC) (from_1:Int) (to_2:Int):Option (Bool):=
Zb (cond (from_1==0) (cond (to_2==x_0.1.2.2.2.1) (some true) (cond (from_1==x_0.1.2.2.2.1) (some (to_2==0)) (some false))) (cond (from_1==x_0.1.2.2.2.1) (some (to_2==0)) (some false))) λc5=>
some c5
def zbj (x_0:zaC) (from_1:Int) (to_2:Int):Option (Bool):=
Zb (idx (List.replicate 1 (λ_=>none)++([(λx=>zfm x.1 x.2.1 x.2.2),(λx=>zeI x.1 x.2.1 x.2.2),(λx=>zbL x.1 x.2.1 x.2.2),(λx=>zb7 x.1 x.2.1 x.2.2),(λx=>zbt x.1 x.2.1 x.2.2),(λx=>zbu x.1 x.2.1 x.2.2)]:(List ((zaC×Int×Int)->Option Bool)))) x_0.1.2.1) λx4=>
Zb (x4 (x_0,from_1,to_2)) λy5=>
some y5
def zdA (m_0:zL):Option (Int):=
cond m_0.2.1 (some (w64 ((w64 (2*m_0.1))+1))) (some (w64 (2*m_0.1)))
def zbf (x_0:Int):Option (Bool):=
some (x_0 !=x_0)
def za4 (x_0:Int) (y_1:Int):Option (Bool):=
Zb (Zb (zbf x_0) λy6=>
cond y6 (Zb (zbf y_1) λy8=>
cond (!y8) (some true) (some (decide (x_0<y_1)))) (some (decide (x_0<y_1)))) λc5=>
some c5
def zab   (data_0:(List Int)) (a_1:Int) (b_2:Int):Option (List Int):=
Zb (iter (σ:=(Int×(List Int))) (τ:=(List Int)) (λsb=>
cond (decide (sb.1<b_2)) (Zb (iter (σ:=(Int×(List Int))) (τ:=(List Int)) (λsa=>
cond (decide (sa.1>a_1)) (Zb (idx sa.2 sa.1) λxb=>
Zb (idx sa.2 (w64 (sa.1-1))) λxd=>
Zb (za4 xb xd) λya=>
cond ya (Zb (idx sa.2 (w64 (sa.1-1))) λxa=>
Zb (idx sa.2 sa.1) λxe=>
Zb (idx sa.2 sa.1) λxf=>
Zb (idx ((sa.2).set (Int.toNat sa.1) xa) (w64 (sa.1-1))) λxg=>
some (.inl ((w64 (sa.1-1)),((sa.2).set (Int.toNat sa.1) xa).set (Int.toNat (w64 (sa.1-1))) xe))) (some (.inr sa.2))) (some (.inr sa.2))) big (sb.1,sb.2)) λta=>
some (.inl ((w64 (sb.1+1)),ta))) (some (.inr sb.2))) big ((w64 (a_1+1)),data_0)) λtb=>
some tb
def zes (x_0:Int):Option (Int):=
cond (decide (x_0>=4294967296)) (Zb (ziK .u64 x_0 32) λx2=>
cond (decide (x2>=65536)) (Zb (ziK .u64 x2 16) λx4=>
cond (decide (x4>=256)) (Zb (ziK .u64 x4 8) λx6=>
Zb (idx zdw (IntKind.u8.wrap x6)) λx7=>
some (w64 ((w64 ((w64 (32+16))+8))+(w64 x7)))) (Zb (idx zdw (IntKind.u8.wrap x4)) λx8=>
some (w64 ((w64 (32+16))+(w64 x8))))) (cond (decide (x2>=256)) (Zb (ziK .u64 x2 8) λxb=>
Zb (idx zdw (IntKind.u8.wrap xb)) λxd=>
some (w64 ((w64 (32+8))+(w64 xd)))) (Zb (idx zdw (IntKind.u8.wrap x2)) λxe=>
some (w64 (32+(w64 xe)))))) (cond (decide (x_0>=65536)) (Zb (ziK .u64 x_0 16) λxa=>
cond (decide (xa>=256)) (Zb (ziK .u64 xa 8) λxf=>
Zb (idx zdw (IntKind.u8.wrap xf)) λxg=>
some (w64 ((w64 ((w64 (0+16))+8))+(w64 xg)))) (Zb (idx zdw (IntKind.u8.wrap xa)) λxh=>
some (w64 ((w64 (0+16))+(w64 xh))))) (cond (decide (x_0>=256)) (Zb (ziK .u64 x_0 8) λxi=>
Zb (idx zdw (IntKind.u8.wrap xi)) λxj=>
some (w64 ((w64 (0+8))+(w64 xj)))) (Zb (idx zdw (IntKind.u8.wrap x_0)) λxk=>
some (w64 (0+(w64 xk))))))
def zea (x_0:Int):Option (Int):=
Zb (zes x_0) λy2=>
some y2
def zbg   (data_0:(List Int)) (a_1:Int) (b_2:Int) (limit_3:Int):Option (List Int):=
Zb (iter (σ:=(Int×Int×Int×Bool×Bool×(List Int))) (τ:=(List Int)) (λsa=>
cond (decide ((w64 (sa.2.1-sa.1))<=12)) (Zb (zab sa.2.2.2.2.2 sa.1 sa.2.1) λya=>
some (.inr ya)) (cond (sa.2.2.1==0) none (cond (!sa.2.2.2.1) none none))) big (a_1,b_2,limit_3,true,true,data_0)) λta=>
some ta
def zbM   (x_0:(List Int)):Option (List Int):=
Zb (zea (IntKind.u64.wrap (zr x_0))) λy1=>
Zb (zbg x_0 0 (zr x_0) y1) λy2=>
some y2
def zeJ (n_0:Int):Option (zL):=
Zb (zcr .i64 n_0 2) λx2=>
Zb (zn3 n_0 2) λx3=>
some ((x2,(x3==1),()):zL)
def zbv {σ τ:Type} (step:σ->(zL)->Option (σ⊕τ)) (s_:σ) (p_1:zbe) (p_2:zL):Option (σ⊕τ):=
Zb (zd9 p_2) λy5=>
Zb (zcp p_1.1 y5) λy6=>
Zb (idx p_1.1.1 y6) λx7=>
Zb (iter (σ:=((List Int)×Int)) (τ:=(List Int)) (λsa=>
cond (decide (sa.2<(zr x7.2.2.1))) (Zb (idx x7.2.2.1 sa.2) λxa=>
Zb (zd9 p_2) λyc=>
Zb (zbj ((x7,()):zaC) ((mget p_1.2.2.1 yc).getD 0) sa.2) λyd=>
cond yd (Zb (zdA ((xa.1,xa.2.1,()):zL)) λye=>
Zb (zcY 8 sa.1 ([ye])) λxb=>
some (.inl (xb,(w64 (sa.2+1))))) (some (.inl (sa.1,(w64 (sa.2+1)))))) (some (.inr sa.1))) big ([],0)) λta=>
Zb (zbM ta) λyb=>
Zb (iter (σ:=(Int×(σ⊕τ))) (τ:=(σ⊕τ)⊕(σ⊕τ)) (λsb=>
cond (decide (sb.1<(zr yb))) (Zb (idx yb sb.1) λxd=>
Zb (zeJ xd) λyf=>
Zb (goL sb.2) λsc=>
Zb (step sc yf) λya=>
cond (!(ya).isLeft) (some (.inr (.inr ya))) (some (.inl ((w64 (sb.1+1)),ya)))) (some (.inr (.inl sb.2)))) big (0,(.inl s_))) λtb=>
alt (λba=>some ba) (λbb=>some bb) tb
def zcx (n_0:zbe) (m_1:zL):Option (zbe×zL):=
some (n_0,m_1)
def za0 (n_0:zbe) (m_1:zL) (k_2:zL):Option (Bool):=
Zb (zcx n_0 m_1) λy2=>
Zb (zbv (σ:=Bool) (τ:=Bool) (λs8 x3=>
cond (x3==k_2) (some (.inr true)) (some (.inl s8))) false y2.1 y2.2) λta=>
alt (λbb=>some false) (λba=>some ba) ta
def zb8 (n_0:zbe) (l_1:(List zL)):Option (Bool):=
Zb (iter (σ:=Int) (τ:=Unit⊕(Bool)) (λsa=>
cond (decide (sa<(zr l_1))) (Zb (idx l_1 sa) λxa=>
Zb (zbz n_0 xa) λya=>
cond (!ya) (some (.inr (.inr false))) (cond (decide (sa>0)) (Zb (idx l_1 (w64 (sa-1))) λxb=>
Zb (za0 n_0 xb xa) λyb=>
cond (!yb) (some (.inr (.inr false))) (some (.inl (w64 (sa+1))))) (some (.inl (w64 (sa+1)))))) (some (.inr (.inl ())))) big 0) λta=>
alt (λbb=>Zb (zY (zr l_1) 1 2000) λyc=>
some yc) (λba=>some ba) ta
def za5 (n_0:zbe) (l_1:(List zL)):Option (Int):=
Zb (iter (σ:=(Int×Int)) (τ:=Int) (λs6=>
cond (decide (s6.2<(zr l_1))) (Zb (idx l_1 s6.2) λx9=>
Zb (idx n_0.2.1 x9.1) λxa=>
some (.inl ((w64 (s6.1+xa)),(w64 (s6.2+1))))) (some (.inr s6.1))) big (0,0)) λta=>
some ta
def zb2 (p_0:Plan) (way_1:(List zL)):Option (Int×Int):=
Zb (zdV p_0) λy1=>
Zb (cond (!y1.2) (some true) (Zb y1.1 λp7=>
Zb (zb8 p7 way_1) λy8=>
some (!y8))) λc5=>
cond c5 (some (0,2)) (Zb y1.1 λpa=>
Zb (za5 pa way_1) λya=>
some (ya,0))
def z4 (n_0:Int) (low_1:Int) (high_2:Int):Option (Bool):=
Zb (cond (decide (n_0>=low_1)) (some (decide (n_0<=high_2))) (some false)) λc2=>
some c2
def zbq (s_0:(List Int)) (f_1:((Int)->Option (Bool))):Option (Int):=
Zb (iter (σ:=Int) (τ:=Unit⊕(Int)) (λs5=>
cond (decide (s5<(zr s_0))) (Zb (idx s_0 s5) λx8=>
Zb (f_1 x8) λy9=>
cond y9 (some (.inr (.inr s5))) (some (.inl (w64 (s5+1))))) (some (.inr (.inl ())))) big 0) λta=>
alt (λbb=>some (-1)) (λba=>some ba) ta
def za7 (s_0:(List Int)) (f_1:((Int)->Option (Bool))):Option (Bool):=
Zb (zbq s_0 f_1) λy1=>
some (decide (y1>=0))
def zeR (g_0:Int):Option (Bool):=
Zb (z4 g_0 1 1000) λy1=>
some (!y1)
def zdB (t_0:Train):Option (Int):=
Zb (Zb (z4 t_0.1 1000 80000) λya=>
cond (!ya) (some true) (Zb (z4 t_0.2.1 1 60000) λyb=>
cond (!yb) (some true) (Zb (z4 t_0.2.2.1 1 25000) λyc=>
cond (!yc) (some true) (Zb (z4 t_0.2.2.2.1 1 200000) λyd=>
cond (!yd) (some true) (Zb (z4 t_0.2.2.2.2.1 1 200000) λye=>
cond (!ye) (some true) (Zb (z4 t_0.2.2.2.2.2.1 1 2000000) λyf=>
cond (!yf) (some true) (Zb (z4 t_0.2.2.2.2.2.2.1 0 100000) λyg=>
cond (!yg) (some true) (Zb (z4 t_0.2.2.2.2.2.2.2.1 0 10000) λyh=>
cond (!yh) (some true) (Zb (z4 t_0.2.2.2.2.2.2.2.2.1 0 100) λyi=>
some (!yi)))))))))) λca=>
cond ca (some 2) (Zb (Zb (z4 (zr t_0.2.2.2.2.2.2.2.2.2.1) 1 8) λyj=>
cond (!yj) (some true) (Zb (za7 t_0.2.2.2.2.2.2.2.2.2.1 (λx=>zeR x)) λyk=>
some yk)) λcc=>
cond cc (some 2) (some 0))
def zdb (t_0:Train) (state_1:Int):Option ((Option zav)×Bool):=
Zb (Zb (zdB t_0) λy5=>
cond (y5 !=0) (some true) (Zb (z4 state_1 0 (w64 ((zr t_0.2.2.2.2.2.2.2.2.2.1)-1))) λy7=>
some (!y7))) λc4=>
cond c4 (some ((none:Option zav),false)) (some ((some ((t_0,state_1,()):zav)),true))
def zb0 (p_0:Plan) (rail_1:Int):Option (Int×Int):=
Zb (zdV p_0) λy1=>
Zb (cond (!y1.2) (some true) (Zb y1.1 λp7=>
Zb (zbz p7 ((rail_1,false,()):zL)) λy8=>
some (!y8))) λc5=>
cond c5 (some (0,2)) (Zb y1.1 λpa=>
Zb (idx pa.2.1 rail_1) λxa=>
some (xa,0))
def zdC (p_0:Plan) (way_1:(List zL)) (t_2:Train) (state_3:Int) (stops_4:(List Int)):Option ((Option zaB)×Bool):=
Zb (zdb t_2 state_3) λy1=>
Zb (zb2 p_0 way_1) λy2=>
Zb (cond (!y1.2) (some true) (cond (y2.2 !=0) (some true) (Zb (z4 (zr stops_4) 2 100) λyb=>
cond (!yb) (some true) (Zb (idx stops_4 0) λxd=>
cond (decide (xd<t_2.2.1)) (some true) (Zb (idx stops_4 (w64 ((zr stops_4)-1))) λxe=>
some (decide (xe>y2.1))))))) λca=>
cond ca (some ((none:Option zaB),false)) (Zb (iter (σ:=Int) (τ:=Unit⊕((Option zaB)×Bool)) (λsb=>
cond (decide (sb<(zr stops_4))) (Zb (idx stops_4 sb) λxf=>
Zb (idx stops_4 (w64 (sb-1))) λxg=>
cond (decide (xf<=xg)) (some (.inr (.inr ((none:Option zaB),false)))) (some (.inl (w64 (sb+1))))) (some (.inr (.inl ())))) big 1) λta=>
alt (λbd=>Zb y1.1 λpa=>
Zb (iter (σ:=(Int×Int×(List Int)×(List Int)×(List Int))) (τ:=((List Int)×(List Int)×(List Int))⊕((Option zaB)×Bool×(List Int)×(List Int)×(List Int))) (λsa=>
cond (decide (sa.2.1<(zr way_1))) (Zb (idx way_1 sa.2.1) λxb=>
Zb (zb0 p_0 xb.1) λya=>
cond (ya.2 !=0) (some (.inr (.inr ((none:Option zaB),false,sa.2.2.2.2,sa.2.2.2.1,sa.2.2.1)))) (Zb (idx p_0.2.1 xb.1) λxa=>
cond xb.2.1 (Zb (zcY 8 sa.2.2.2.2 ([(w64 (sa.1+ya.1))])) λxh=>
Zb (zcY 8 sa.2.2.2.1 ([xa.2.2.2.1])) λxi=>
Zb (zcY 8 sa.2.2.1 ([(w64 (0-xa.2.2.2.2.1))])) λxj=>
some (.inl ((w64 (sa.1+ya.1)),(w64 (sa.2.1+1)),xj,xi,xh))) (Zb (zcY 8 sa.2.2.2.2 ([(w64 (sa.1+ya.1))])) λxk=>
Zb (zcY 8 sa.2.2.2.1 ([xa.2.2.2.1])) λxl=>
Zb (zcY 8 sa.2.2.1 ([xa.2.2.2.2.1])) λxm=>
some (.inl ((w64 (sa.1+ya.1)),(w64 (sa.2.1+1)),xm,xl,xk))))) (some (.inr (.inl (sa.2.2.2.2,sa.2.2.2.1,sa.2.2.1))))) big (0,0,[],[],[])) λtb=>
alt (λba=>some ((some (pa,way_1,ba.1,ba.2.1,ba.2.2,stops_4,())),true)) (λbb=>some (bb.1,bb.2.1)) tb) (λbc=>some (bc.1,bc.2)) ta)
def z9 (m_0:zav) (x_1:zb):Option (Int):=
Zb (zcr .i64 x_1.2.1 (w64 (10*m_0.1.1))) λx2=>
some x2
def zcZ (x_0:Int):Option (Bool):=
some (x_0 !=x_0)
def zN (x_0:(List Int)) (target_1:Int):Option (Int×Bool):=
Zb (iter (σ:=(Int×Int)) (τ:=Int) (λs6=>
cond (decide (s6.1<s6.2)) (Zb (ziK .u64 (IntKind.u64.wrap (w64 (s6.1+s6.2))) 1) λx9=>
Zb (idx x_0 (w64 x9)) λxa=>
Zb (za4 xa target_1) λya=>
cond ya (some (.inl ((w64 ((w64 x9)+1)),s6.2))) (some (.inl (s6.1,(w64 x9))))) (some (.inr s6.1))) big (0,(zr x_0))) λta=>
Zb (cond (decide (ta<(zr x_0))) (Zb (idx x_0 ta) λxb=>
cond (xb==target_1) (some (ta,true)) (Zb (idx x_0 ta) λxd=>
Zb (zcZ xd) λyb=>
cond yb (Zb (zcZ target_1) λyc=>
some (ta,yc)) (some (ta,false)))) (some (ta,false))) λca=>
some (ca.1,ca.2)
def zaR (r_0:zaB) (x_1:zb):Option (Int):=
Zb (z9 r_0.1 x_1) λy2=>
Zb (zN r_0.2.2.1 (w64 (y2+1))) λy3=>
Zb (idx r_0.2.2.2.2.1 (min y3.1 (w64 ((zr r_0.2.2.2.2.1)-1)))) λx5=>
some x5
def zbh (m_0:zav):Option (Int):=
Zb (idx m_0.1.2.2.2.2.2.2.2.2.2.1 m_0.2.1) λx3=>
Zb (zcr .i64 (w64 ((w64 (x3*m_0.1.1))*981)) 100000) λx4=>
some x4
def zbb (m_0:zav) (v_1:Int) (demand_2:Int) (slope_3:Int):Option (Int):=
cond (decide (demand_2<=0)) (some 0) (Zb (zcr .i64 (w64 (m_0.1.2.2.2.1*demand_2)) 4) λx4=>
Zb (zbh m_0) λy5=>
cond (decide (v_1>0)) (Zb (zcr .i64 (w64 (1000*m_0.1.2.2.2.2.2.1)) v_1) λx7=>
some (min (min x4 y5) x7)) (some (min x4 y5)))
def za3 (m_0:zav) (v_1:Int) (demand_2:Int) (slope_3:Int):Option (Int):=
cond (decide (demand_2>=0)) (some 0) (Zb (zcr .i64 (w64 (m_0.1.2.2.2.2.1*(w64 (0-demand_2)))) 4) λx4=>
Zb (zbh m_0) λy5=>
some (min x4 y5))
def zbA (m_0:zav) (v_1:Int) (demand_2:Int) (slope_3:Int):Option (Int):=
Zb (zcr .i64 (w64 (m_0.1.2.2.2.2.2.2.2.1*v_1)) 1000) λx2=>
some (w64 (m_0.1.2.2.2.2.2.2.1+x2))
def zbB (m_0:zav) (v_1:Int) (demand_2:Int) (slope_3:Int):Option (Int):=
Zb (zcr .i64 (w64 ((w64 (m_0.1.1*slope_3))*981)) 100000) λx1=>
some x1
def zcg (m_0:zav) (v_1:Int) (demand_2:Int) (slope_3:Int):Option (List Int):=
Zb (iter (σ:=(Int×(List Int))) (τ:=(List Int)) (λsa=>
cond (decide (sa.1<4)) (Zb (idx ([(λx=>zbb m_0 x.1 x.2.1 x.2.2),(λx=>za3 m_0 x.1 x.2.1 x.2.2),(λx=>zbA m_0 x.1 x.2.1 x.2.2),(λx=>zbB m_0 x.1 x.2.1 x.2.2)]:(List ((Int×Int×Int)->Option Int))) sa.1) λxa=>
Zb (xa (v_1,demand_2,slope_3)) λya=>
Zb (idx sa.2 sa.1) λxb=>
some (.inl ((w64 (sa.1+1)),(sa.2).set (Int.toNat sa.1) ya))) (some (.inr sa.2))) big (0,(List.replicate 4 (0:Int)))) λta=>
some ta
def zbk (m_0:zav) (x_1:zb):Option (Int):=
Zb (zcr .i64 x_1.1 m_0.1.1) λx2=>
some x2
def zaE (m_0:zav) (x_1:zb) (demand_2:Int) (slope_3:Int):Option (zbd×Bool):=
Zb (zbk m_0 x_1) λy2=>
Zb (zcg m_0 y2 demand_2 slope_3) λy3=>
Zb (idx y3 0) λx5=>
Zb (idx y3 1) λx6=>
Zb (idx y3 2) λx7=>
Zb (idx y3 3) λx8=>
Zb (cond (decide ((w64 (x_1.1+(w64 (100*(w64 ((w64 ((w64 (x5-x6))-x7))-x8))))))<0)) (some true) (cond (x_1.1==0) (some (decide ((w64 ((w64 ((w64 (x5-x6))-x7))-x8))<=0))) (some false))) λca=>
cond ca (Zb (idx y3 0) λxa=>
Zb (idx y3 1) λxb=>
Zb (idx y3 2) λxd=>
Zb (idx y3 3) λxe=>
Zb (idx y3 0) λxf=>
Zb (zcr .i64 (w64 ((w64 ((w64 (xf*0))+(w64 (1000*m_0.1.1))))-1)) (w64 (1000*m_0.1.1))) λxg=>
Zb (idx y3 1) λxh=>
Zb (zcr .i64 (w64 ((w64 (xh*0))*m_0.1.2.2.2.2.2.2.2.2.1)) (w64 (100000*m_0.1.1))) λxi=>
some (((0,(w64 (x_1.2.1+0)),()),((w64 ((w64 (200*xa))*0)),(w64 ((w64 (200*xb))*0)),(w64 ((w64 (200*xd))*0)),(w64 ((w64 (200*xe))*0)),0,(w64 (x_1.1*x_1.1)),()),xg,xi,()),(decide (0<=(w64 (25000*m_0.1.1)))))) (Zb (idx y3 0) λxj=>
Zb (idx y3 1) λxk=>
Zb (idx y3 2) λxl=>
Zb (idx y3 3) λxm=>
Zb (idx y3 0) λxn=>
Zb (zcr .i64 (w64 ((w64 ((w64 (xn*(w64 (x_1.1+(w64 (100*(w64 ((w64 ((w64 (x5-x6))-x7))-x8))))))))+(w64 (1000*m_0.1.1))))-1)) (w64 (1000*m_0.1.1))) λxo=>
Zb (idx y3 1) λxp=>
Zb (zcr .i64 (w64 ((w64 (xp*(w64 (x_1.1+(w64 (100*(w64 ((w64 ((w64 (x5-x6))-x7))-x8))))))))*m_0.1.2.2.2.2.2.2.2.2.1)) (w64 (100000*m_0.1.1))) λxq=>
some ((((w64 (x_1.1+(w64 (100*(w64 ((w64 ((w64 (x5-x6))-x7))-x8)))))),(w64 (x_1.2.1+(w64 (x_1.1+(w64 (100*(w64 ((w64 ((w64 (x5-x6))-x7))-x8)))))))),()),((w64 ((w64 (200*xj))*(w64 (x_1.1+(w64 (100*(w64 ((w64 ((w64 (x5-x6))-x7))-x8)))))))),(w64 ((w64 (200*xk))*(w64 (x_1.1+(w64 (100*(w64 ((w64 ((w64 (x5-x6))-x7))-x8)))))))),(w64 ((w64 (200*xl))*(w64 (x_1.1+(w64 (100*(w64 ((w64 ((w64 (x5-x6))-x7))-x8)))))))),(w64 ((w64 (200*xm))*(w64 (x_1.1+(w64 (100*(w64 ((w64 ((w64 (x5-x6))-x7))-x8)))))))),(w64 ((w64 (10000*(w64 ((w64 ((w64 (x5-x6))-x7))-x8))))*(w64 ((w64 ((w64 (x5-x6))-x7))-x8)))),0,()),xo,xq,()),(decide ((w64 (x_1.1+(w64 (100*(w64 ((w64 ((w64 (x5-x6))-x7))-x8))))))<=(w64 (25000*m_0.1.1))))))
def zch (r_0:zaB) (x_1:zb):Option (Int):=
Zb (z9 r_0.1 x_1) λy2=>
Zb (zN r_0.2.2.1 (w64 ((w64 (y2-r_0.1.1.2.1))+1))) λy3=>
Zb (iter (σ:=(Int×Int)) (τ:=Int) (λs8=>
cond (decide (s8.2<(zr r_0.2.2.1))) (Zb (idx r_0.2.2.2.1 s8.2) λxa=>
Zb (idx r_0.2.2.1 s8.2) λxb=>
cond (decide (xb>=y2)) (some (.inr (min s8.1 xa))) (some (.inl ((min s8.1 xa),(w64 (s8.2+1)))))) (some (.inr s8.1))) big (r_0.1.1.2.2.1,y3.1)) λta=>
some ta
def zbC (r_0:zaB) (x_1:zb) (stop_2:Int):Option (Bool):=
Zb (Zb (z9 r_0.1 x_1) λya=>
cond (decide (ya<=stop_2)) (Zb (zbk r_0.1 x_1) λyb=>
Zb (zch r_0 x_1) λyc=>
some (decide (yb<=yc))) (some false)) λc9=>
some c9
def za6 {σ τ:Type} (step:σ->(zb)->Option (σ⊕τ)) (s_:σ) (p_1:zb) (p_2:zav) (p_3:((zb)->Option (Int))):Option ((σ⊕τ)×zb):=
Zb (iter (σ:=(Int×(σ⊕τ)×Int×Int)) (τ:=((σ⊕τ)×Int×Int)⊕((σ⊕τ)×Int×Int)) (λsa=>
cond (decide (sa.1<36000)) (cond (sa.2.2.1==0) (some (.inr (.inr (sa.2.1,sa.2.2.1,sa.2.2.2)))) (Zb (p_3 (sa.2.2.1,sa.2.2.2,())) λyc=>
Zb (zaE p_2 (sa.2.2.1,sa.2.2.2,()) (-4) yc) λya=>
cond (!ya.2) (some (.inr (.inr (sa.2.1,sa.2.2.1,sa.2.2.2)))) (Zb (goL sa.2.1) λsb=>
Zb (step sb ya.1.1) λyb=>
cond (!(yb).isLeft) (some (.inr (.inr (yb,ya.1.1.1,ya.1.1.2.1)))) (some (.inl ((w64 (sa.1+1)),yb,ya.1.1.1,ya.1.1.2.1)))))) (some (.inr (.inl (sa.2.1,sa.2.2.1,sa.2.2.2))))) big (0,(.inl s_),p_1.1,p_1.2.1)) λta=>
alt (λba=>some (ba.1,(ba.2.1,ba.2.2,()))) (λbb=>some (bb.1,(bb.2.1,bb.2.2,()))) ta
def zbY (m_0:zav) (x_1:zb) (slope_2:((zb)->Option (Int))):Option (zb×zav×((zb)->Option (Int))):=
some (x_1,m_0,slope_2)
def zb3 (r_0:zaB) (x_1:zb) (stop_2:Int):Option (Bool):=
Zb (zbC r_0 x_1 stop_2) λy2=>
cond (!y2) (some false) (Zb (zbY r_0.1 x_1 (λx=>zaR r_0 x)) λy7=>
Zb (za6 (σ:=(Int×Int)) (τ:=(Int×Int)) (λsa x9=>
Zb (zbC r_0 x9 stop_2) λya=>
cond (!ya) (some (.inr (sa.1,sa.2))) (some (.inl (x9.1,x9.2.1)))) (x_1.1,x_1.2.1) y7.1 y7.2.1 y7.2.2) λta=>
alt (λba=>some (ba.1==0)) (λbb=>some false) ta.1)
def zaW (r_0:zaB) (x_1:zb) (stop_2:Int):Option (zbd×Bool):=
Zb (zaR r_0 x_1) λy2=>
Zb (iter (σ:=(Bool×Int×Int×Int×Int×Int×Int×Int×Int×Int×Int×Int)) (τ:=(Bool×Int×Int×Int×Int×Int×Int×Int×Int×Int×Int)) (λsa=>
cond (decide (sa.2.1<9)) (Zb (zaE r_0.1 x_1 (w64 (4-sa.2.1)) y2) λya=>
cond ya.2 (Zb (zb3 r_0 ya.1.1 stop_2) λyb=>
cond yb (some (.inr (true,ya.1.1.1,ya.1.1.2.1,ya.1.2.1.1,ya.1.2.1.2.1,ya.1.2.1.2.2.1,ya.1.2.1.2.2.2.1,ya.1.2.1.2.2.2.2.1,ya.1.2.1.2.2.2.2.2.1,ya.1.2.2.1,ya.1.2.2.2.1))) (some (.inl (sa.1,(w64 (sa.2.1+1)),sa.2.2.1,sa.2.2.2.1,sa.2.2.2.2.1,sa.2.2.2.2.2.1,sa.2.2.2.2.2.2.1,sa.2.2.2.2.2.2.2.1,sa.2.2.2.2.2.2.2.2.1,sa.2.2.2.2.2.2.2.2.2.1,sa.2.2.2.2.2.2.2.2.2.2.1,sa.2.2.2.2.2.2.2.2.2.2.2)))) (some (.inl (sa.1,(w64 (sa.2.1+1)),sa.2.2.1,sa.2.2.2.1,sa.2.2.2.2.1,sa.2.2.2.2.2.1,sa.2.2.2.2.2.2.1,sa.2.2.2.2.2.2.2.1,sa.2.2.2.2.2.2.2.2.1,sa.2.2.2.2.2.2.2.2.2.1,sa.2.2.2.2.2.2.2.2.2.2.1,sa.2.2.2.2.2.2.2.2.2.2.2)))) (some (.inr (sa.1,sa.2.2.1,sa.2.2.2.1,sa.2.2.2.2.1,sa.2.2.2.2.2.1,sa.2.2.2.2.2.2.1,sa.2.2.2.2.2.2.2.1,sa.2.2.2.2.2.2.2.2.1,sa.2.2.2.2.2.2.2.2.2.1,sa.2.2.2.2.2.2.2.2.2.2.1,sa.2.2.2.2.2.2.2.2.2.2.2)))) big (false,0,0,0,0,0,0,0,0,0,0,0)) λta=>
some (((ta.2.1,ta.2.2.1,()),(ta.2.2.2.1,ta.2.2.2.2.1,ta.2.2.2.2.2.1,ta.2.2.2.2.2.2.1,ta.2.2.2.2.2.2.2.1,ta.2.2.2.2.2.2.2.2.1,()),ta.2.2.2.2.2.2.2.2.2.1,ta.2.2.2.2.2.2.2.2.2.2,()),ta.1)
def zcL (l_0:(List zac)):Option (zac):=
Zb (iter (σ:=(Int×Int×Int×Int×Int×Int×Int)) (τ:=(Int×Int×Int×Int×Int×Int)) (λs9=>
cond (decide (s9.1<(zr l_0))) (Zb (idx l_0 s9.1) λxa=>
some (.inl ((w64 (s9.1+1)),(w64 (s9.2.1+xa.1)),(w64 (s9.2.2.1+xa.2.1)),(w64 (s9.2.2.2.1+xa.2.2.1)),(w64 (s9.2.2.2.2.1+xa.2.2.2.1)),(w64 (s9.2.2.2.2.2.1+xa.2.2.2.2.1)),(w64 (s9.2.2.2.2.2.2+xa.2.2.2.2.2.1))))) (some (.inr (s9.2.1,s9.2.2.1,s9.2.2.2.1,s9.2.2.2.2.1,s9.2.2.2.2.2.1,s9.2.2.2.2.2.2)))) big (0,0,0,0,0,0,0)) λta=>
some (ta.1,ta.2.1,ta.2.2.1,ta.2.2.2.1,ta.2.2.2.2.1,ta.2.2.2.2.2,())
def zbo (r_0:zaB) (x_1:zb) (stop_2:Int):Option (Leg×zb×Bool):=
Zb (iter (σ:=(Int×Int×Int×Int×Int×Int×Int×Int×Int×Int×Int×Int×Int×Int×Int×Int×Int×Int×Int×Int×Int×Int×Int×Int×Int)) (τ:=(Bool×Int×Int×Int×Int×Int×Int×Int×Int×Int×Int×Int×Int×Int×Int×Int×Int×Int×Int×Int×Int×Int×Int×Int×Int)) (λsa=>
Zb (z9 r_0.1 (sa.2.2.2.2.2.2.2.2.2.2.2.2.2.2.1,sa.2.2.2.2.2.2.2.2.2.2.2.2.2.2.2.1,())) λye=>
cond (sa.2.2.2.2.2.2.2.2.2.2.2.2.2.2.1==0) (Zb (z4 (w64 (stop_2-ye)) 0 1000) λyf=>
cond yf (some (.inr (true,ye,sa.2.2.2.2.2.2.2.2.2.2.2.2.2.2.1,sa.2.2.2.2.2.2.2.2.2.2.2.2.2.2.2.1,sa.2.1,ye,sa.2.2.2.1,sa.2.2.2.2.1,sa.2.2.2.2.2.1,sa.2.2.2.2.2.2.1,sa.2.2.2.2.2.2.2.1,sa.2.2.2.2.2.2.2.2.1,sa.2.2.2.2.2.2.2.2.2.1,sa.2.2.2.2.2.2.2.2.2.2.1,sa.2.1,sa.2.2.2.1,sa.2.2.2.2.1,sa.2.2.2.2.2.1,sa.2.2.2.2.2.2.1,sa.2.2.2.2.2.2.2.1,sa.2.2.2.2.2.2.2.2.1,sa.2.2.2.2.2.2.2.2.2.1,sa.2.2.2.2.2.2.2.2.2.2.1,sa.2.2.2.2.2.2.2.2.2.2.2.2.2.2.1,sa.2.2.2.2.2.2.2.2.2.2.2.2.2.2.2.1))) (cond (sa.1==36000) (some (.inr (false,sa.2.2.1,sa.2.2.2.2.2.2.2.2.2.2.2.2.2.2.1,sa.2.2.2.2.2.2.2.2.2.2.2.2.2.2.2.1,sa.2.1,sa.2.2.1,sa.2.2.2.1,sa.2.2.2.2.1,sa.2.2.2.2.2.1,sa.2.2.2.2.2.2.1,sa.2.2.2.2.2.2.2.1,sa.2.2.2.2.2.2.2.2.1,sa.2.2.2.2.2.2.2.2.2.1,sa.2.2.2.2.2.2.2.2.2.2.1,sa.2.1,sa.2.2.2.1,sa.2.2.2.2.1,sa.2.2.2.2.2.1,sa.2.2.2.2.2.2.1,sa.2.2.2.2.2.2.2.1,sa.2.2.2.2.2.2.2.2.1,sa.2.2.2.2.2.2.2.2.2.1,sa.2.2.2.2.2.2.2.2.2.2.1,sa.2.2.2.2.2.2.2.2.2.2.2.2.2.2.1,sa.2.2.2.2.2.2.2.2.2.2.2.2.2.2.2.1))) (Zb (zaW r_0 (sa.2.2.2.2.2.2.2.2.2.2.2.2.2.2.1,sa.2.2.2.2.2.2.2.2.2.2.2.2.2.2.2.1,()) stop_2) λya=>
cond (!ya.2) (some (.inr (false,sa.2.2.1,sa.2.2.2.2.2.2.2.2.2.2.2.2.2.2.1,sa.2.2.2.2.2.2.2.2.2.2.2.2.2.2.2.1,sa.2.1,sa.2.2.1,sa.2.2.2.1,sa.2.2.2.2.1,sa.2.2.2.2.2.1,sa.2.2.2.2.2.2.1,sa.2.2.2.2.2.2.2.1,sa.2.2.2.2.2.2.2.2.1,sa.2.2.2.2.2.2.2.2.2.1,sa.2.2.2.2.2.2.2.2.2.2.1,sa.2.1,sa.2.2.2.1,sa.2.2.2.2.1,sa.2.2.2.2.2.1,sa.2.2.2.2.2.2.1,sa.2.2.2.2.2.2.2.1,sa.2.2.2.2.2.2.2.2.1,sa.2.2.2.2.2.2.2.2.2.1,sa.2.2.2.2.2.2.2.2.2.2.1,sa.2.2.2.2.2.2.2.2.2.2.2.2.2.2.1,sa.2.2.2.2.2.2.2.2.2.2.2.2.2.2.2.1))) (cond (decide (ya.1.1.2.1>10000000000000000)) (some (.inr (false,sa.2.2.1,sa.2.2.2.2.2.2.2.2.2.2.2.2.2.2.1,sa.2.2.2.2.2.2.2.2.2.2.2.2.2.2.2.1,sa.2.1,sa.2.2.1,sa.2.2.2.1,sa.2.2.2.2.1,sa.2.2.2.2.2.1,sa.2.2.2.2.2.2.1,sa.2.2.2.2.2.2.2.1,sa.2.2.2.2.2.2.2.2.1,sa.2.2.2.2.2.2.2.2.2.1,sa.2.2.2.2.2.2.2.2.2.2.1,sa.2.1,sa.2.2.2.1,sa.2.2.2.2.1,sa.2.2.2.2.2.1,sa.2.2.2.2.2.2.1,sa.2.2.2.2.2.2.2.1,sa.2.2.2.2.2.2.2.2.1,sa.2.2.2.2.2.2.2.2.2.1,sa.2.2.2.2.2.2.2.2.2.2.1,sa.2.2.2.2.2.2.2.2.2.2.2.2.2.2.1,sa.2.2.2.2.2.2.2.2.2.2.2.2.2.2.2.1))) (Zb (zcL ([(sa.2.2.2.1,sa.2.2.2.2.1,sa.2.2.2.2.2.1,sa.2.2.2.2.2.2.1,sa.2.2.2.2.2.2.2.1,sa.2.2.2.2.2.2.2.2.1,()),ya.1.2.1])) λyc=>
some (.inl ((w64 (sa.1+1)),(w64 (sa.2.1+100)),sa.2.2.1,yc.1,yc.2.1,yc.2.2.1,yc.2.2.2.1,yc.2.2.2.2.1,yc.2.2.2.2.2.1,(max sa.2.2.2.2.2.2.2.2.2.1 ya.1.2.2.1),(max sa.2.2.2.2.2.2.2.2.2.2.1 ya.1.2.2.2.1),sa.2.2.2.2.2.2.2.2.2.2.2.1,sa.2.2.2.2.2.2.2.2.2.2.2.2.1,sa.2.2.2.2.2.2.2.2.2.2.2.2.2.1,ya.1.1.1,ya.1.1.2.1,sa.2.2.2.2.2.2.2.2.2.2.2.2.2.2.2.2.1,sa.2.2.2.2.2.2.2.2.2.2.2.2.2.2.2.2.2.1,sa.2.2.2.2.2.2.2.2.2.2.2.2.2.2.2.2.2.2.1,sa.2.2.2.2.2.2.2.2.2.2.2.2.2.2.2.2.2.2.2.1,sa.2.2.2.2.2.2.2.2.2.2.2.2.2.2.2.2.2.2.2.2.1,sa.2.2.2.2.2.2.2.2.2.2.2.2.2.2.2.2.2.2.2.2.2.1,sa.2.2.2.2.2.2.2.2.2.2.2.2.2.2.2.2.2.2.2.2.2.2.1,sa.2.2.2.2.2.2.2.2.2.2.2.2.2.2.2.2.2.2.2.2.2.2.2.1,sa.2.2.2.2.2.2.2.2.2.2.2.2.2.2.2.2.2.2.2.2.2.2.2.2))))))) (cond (sa.1==36000) (some (.inr (false,sa.2.2.1,sa.2.2.2.2.2.2.2.2.2.2.2.2.2.2.1,sa.2.2.2.2.2.2.2.2.2.2.2.2.2.2.2.1,sa.2.1,sa.2.2.1,sa.2.2.2.1,sa.2.2.2.2.1,sa.2.2.2.2.2.1,sa.2.2.2.2.2.2.1,sa.2.2.2.2.2.2.2.1,sa.2.2.2.2.2.2.2.2.1,sa.2.2.2.2.2.2.2.2.2.1,sa.2.2.2.2.2.2.2.2.2.2.1,sa.2.1,sa.2.2.2.1,sa.2.2.2.2.1,sa.2.2.2.2.2.1,sa.2.2.2.2.2.2.1,sa.2.2.2.2.2.2.2.1,sa.2.2.2.2.2.2.2.2.1,sa.2.2.2.2.2.2.2.2.2.1,sa.2.2.2.2.2.2.2.2.2.2.1,sa.2.2.2.2.2.2.2.2.2.2.2.2.2.2.1,sa.2.2.2.2.2.2.2.2.2.2.2.2.2.2.2.1))) (Zb (zaW r_0 (sa.2.2.2.2.2.2.2.2.2.2.2.2.2.2.1,sa.2.2.2.2.2.2.2.2.2.2.2.2.2.2.2.1,()) stop_2) λyb=>
cond (!yb.2) (some (.inr (false,sa.2.2.1,sa.2.2.2.2.2.2.2.2.2.2.2.2.2.2.1,sa.2.2.2.2.2.2.2.2.2.2.2.2.2.2.2.1,sa.2.1,sa.2.2.1,sa.2.2.2.1,sa.2.2.2.2.1,sa.2.2.2.2.2.1,sa.2.2.2.2.2.2.1,sa.2.2.2.2.2.2.2.1,sa.2.2.2.2.2.2.2.2.1,sa.2.2.2.2.2.2.2.2.2.1,sa.2.2.2.2.2.2.2.2.2.2.1,sa.2.1,sa.2.2.2.1,sa.2.2.2.2.1,sa.2.2.2.2.2.1,sa.2.2.2.2.2.2.1,sa.2.2.2.2.2.2.2.1,sa.2.2.2.2.2.2.2.2.1,sa.2.2.2.2.2.2.2.2.2.1,sa.2.2.2.2.2.2.2.2.2.2.1,sa.2.2.2.2.2.2.2.2.2.2.2.2.2.2.1,sa.2.2.2.2.2.2.2.2.2.2.2.2.2.2.2.1))) (cond (decide (yb.1.1.2.1>10000000000000000)) (some (.inr (false,sa.2.2.1,sa.2.2.2.2.2.2.2.2.2.2.2.2.2.2.1,sa.2.2.2.2.2.2.2.2.2.2.2.2.2.2.2.1,sa.2.1,sa.2.2.1,sa.2.2.2.1,sa.2.2.2.2.1,sa.2.2.2.2.2.1,sa.2.2.2.2.2.2.1,sa.2.2.2.2.2.2.2.1,sa.2.2.2.2.2.2.2.2.1,sa.2.2.2.2.2.2.2.2.2.1,sa.2.2.2.2.2.2.2.2.2.2.1,sa.2.1,sa.2.2.2.1,sa.2.2.2.2.1,sa.2.2.2.2.2.1,sa.2.2.2.2.2.2.1,sa.2.2.2.2.2.2.2.1,sa.2.2.2.2.2.2.2.2.1,sa.2.2.2.2.2.2.2.2.2.1,sa.2.2.2.2.2.2.2.2.2.2.1,sa.2.2.2.2.2.2.2.2.2.2.2.2.2.2.1,sa.2.2.2.2.2.2.2.2.2.2.2.2.2.2.2.1))) (Zb (zcL ([(sa.2.2.2.1,sa.2.2.2.2.1,sa.2.2.2.2.2.1,sa.2.2.2.2.2.2.1,sa.2.2.2.2.2.2.2.1,sa.2.2.2.2.2.2.2.2.1,()),yb.1.2.1])) λyd=>
some (.inl ((w64 (sa.1+1)),(w64 (sa.2.1+100)),sa.2.2.1,yd.1,yd.2.1,yd.2.2.1,yd.2.2.2.1,yd.2.2.2.2.1,yd.2.2.2.2.2.1,(max sa.2.2.2.2.2.2.2.2.2.1 yb.1.2.2.1),(max sa.2.2.2.2.2.2.2.2.2.2.1 yb.1.2.2.2.1),sa.2.2.2.2.2.2.2.2.2.2.2.1,sa.2.2.2.2.2.2.2.2.2.2.2.2.1,sa.2.2.2.2.2.2.2.2.2.2.2.2.2.1,yb.1.1.1,yb.1.1.2.1,sa.2.2.2.2.2.2.2.2.2.2.2.2.2.2.2.2.1,sa.2.2.2.2.2.2.2.2.2.2.2.2.2.2.2.2.2.1,sa.2.2.2.2.2.2.2.2.2.2.2.2.2.2.2.2.2.2.1,sa.2.2.2.2.2.2.2.2.2.2.2.2.2.2.2.2.2.2.2.1,sa.2.2.2.2.2.2.2.2.2.2.2.2.2.2.2.2.2.2.2.2.1,sa.2.2.2.2.2.2.2.2.2.2.2.2.2.2.2.2.2.2.2.2.2.1,sa.2.2.2.2.2.2.2.2.2.2.2.2.2.2.2.2.2.2.2.2.2.2.1,sa.2.2.2.2.2.2.2.2.2.2.2.2.2.2.2.2.2.2.2.2.2.2.2.1,sa.2.2.2.2.2.2.2.2.2.2.2.2.2.2.2.2.2.2.2.2.2.2.2.2))))))) big (0,0,0,0,0,0,0,0,0,0,0,0,0,0,x_1.1,x_1.2.1,0,0,0,0,0,0,0,0,0)) λta=>
some ((ta.2.2.2.2.1,ta.2.2.2.2.2.1,(ta.2.2.2.2.2.2.1,ta.2.2.2.2.2.2.2.1,ta.2.2.2.2.2.2.2.2.1,ta.2.2.2.2.2.2.2.2.2.1,ta.2.2.2.2.2.2.2.2.2.2.1,ta.2.2.2.2.2.2.2.2.2.2.2.1,()),ta.2.2.2.2.2.2.2.2.2.2.2.2.1,ta.2.2.2.2.2.2.2.2.2.2.2.2.2.1,()),(ta.2.2.1,ta.2.2.2.1,()),ta.1)
def zb1 (p_0:Plan) (way_1:(List zL)) (t_2:Train) (state_3:Int) (stops_4:(List Int)):Option ((List Leg)×Int):=
Zb (zdC p_0 way_1 t_2 state_3 stops_4) λy1=>
cond (!y1.2) (some ([],2)) (Zb (idx stops_4 0) λx5=>
Zb (slO stops_4 1 (zr stops_4)) λx7=>
Zb (iter (σ:=((List Leg)×Int×Int×Int)) (τ:=((List Leg)×Int×Int)⊕((List Leg)×Int×Int×Int)) (λsa=>
cond (decide (sa.2.1<(zr x7))) (Zb (idx x7 sa.2.1) λxa=>
Zb y1.1 λpa=>
Zb (zbo pa (sa.2.2.1,sa.2.2.2,()) xa) λya=>
cond (!ya.2.2) (some (.inr (.inr ([],4,sa.2.2.1,sa.2.2.2)))) (cond (decide (sa.2.2.2>10000000000000000)) (some (.inr (.inr ([],4,sa.2.2.1,sa.2.2.2)))) (Zb (zcY 80 sa.1 ([ya.1])) λxb=>
some (.inl (xb,(w64 (sa.2.1+1)),ya.2.1.1,ya.2.1.2.1))))) (some (.inr (.inl (sa.1,sa.2.2.1,sa.2.2.2))))) big ([],0,0,(w64 ((w64 (10*t_2.1))*x5)))) λta=>
alt (λbb=>some (bb.1,0)) (λba=>some (ba.1,ba.2.1)) ta)
def zaX (l_0:(List Leg)) (field_1:((Leg)->Option (Int))):Option (List Int):=
Zb (iter (σ:=((List Int)×Int)) (τ:=(List Int)) (λs7=>
cond (decide (s7.2<(zr l_0))) (Zb (idx l_0 s7.2) λxa=>
Zb (field_1 xa) λya=>
Zb (zcY 8 s7.1 ([ya])) λxb=>
some (.inl (xb,(w64 (s7.2+1))))) (some (.inr s7.1))) big ([],0)) λta=>
some ta
def zex (x_0:Leg):Option (Int):=
some x_0.1
def zbN (p_0:Plan) (way_1:(List zL)) (t_2:Train) (state_3:Int) (stops_4:(List Int)):Option ((List Int)×Int):=
Zb (zb1 p_0 way_1 t_2 state_3 stops_4) λy1=>
cond (y1.2 !=0) (some ([],y1.2)) (Zb (zaX y1.1 (λx=>zex x)) λy4=>
some (y4,0))
def zbi (p_0:Plan) (l_1:Line) (c_2:Course):Option ((List Int)×(List Int)×Bool):=
Zb (zb2 p_0 c_2.1) λy1=>
Zb (cond (y1.2 !=0) (some true) (Zb (zX (zr c_2.2.1) 2 60) λyb=>
cond (!yb) (some true) (cond ((zr c_2.2.2.1)!=(zr c_2.2.1)) (some true) (Zb (idx c_2.2.2.1 0) λxd=>
cond (xd !=0) (some true) (Zb (idx c_2.2.2.1 (w64 ((zr c_2.2.1)-1))) λxe=>
some (xe !=0)))))) λc9=>
cond c9 (some ([],[],false)) (Zb (iter (σ:=Int) (τ:=Unit⊕((List Int)×(List Int)×Bool)) (λsb=>
cond (decide (sb<(zr c_2.2.1))) (Zb (idx c_2.2.1 sb) λxa=>
Zb (zX xa 1 y1.1) λyc=>
cond (!yc) (some (.inr (.inr ([],[],false)))) (cond (decide (sb>0)) (Zb (idx c_2.2.1 (w64 (sb-1))) λxf=>
cond (decide (xa<=xf)) (some (.inr (.inr ([],[],false)))) (Zb (idx c_2.2.2.1 sb) λxg=>
Zb (zX xg 0 600) λyd=>
cond (!yd) (some (.inr (.inr ([],[],false)))) (some (.inl (w64 (sb+1)))))) (Zb (idx c_2.2.2.1 sb) λxh=>
Zb (zX xh 0 600) λye=>
cond (!ye) (some (.inr (.inr ([],[],false)))) (some (.inl (w64 (sb+1))))))) (some (.inr (.inl ())))) big 0) λtb=>
alt (λbb=>Zb (zbN p_0 c_2.1 l_1.2.2.1 l_1.2.2.2.1 c_2.2.1) λya=>
Zb (cond (ya.2 !=0) (some true) (some ((zr ya.1)!=(w64 ((zr c_2.2.1)-1))))) λca=>
cond ca (some ([],[],false)) (Zb (mkO 8 (zr c_2.2.1) (0:Int)) λxi=>
Zb (mkO 8 (zr c_2.2.1) (0:Int)) λxj=>
Zb (iter (σ:=(Int×(List Int)×(List Int))) (τ:=((List Int)×(List Int))) (λsa=>
cond (decide (sa.1<(zr ya.1))) (Zb (idx ya.1 sa.1) λxk=>
Zb (zcr .i64 (w64 (xk+999)) 1000) λxb=>
Zb (idx sa.2.2 (w64 (sa.1+1))) λxp=>
Zb (idx sa.2.1 sa.1) λxl=>
Zb (idx ((sa.2.2).set (Int.toNat (w64 (sa.1+1))) (max 1 xb)) (w64 (sa.1+1))) λxm=>
Zb (idx c_2.2.2.1 (w64 (sa.1+1))) λxn=>
Zb (idx sa.2.1 (w64 (sa.1+1))) λxq=>
some (.inl ((w64 (sa.1+1)),(sa.2.1).set (Int.toNat (w64 (sa.1+1))) (w64 ((w64 (xl+xm))+xn)),(sa.2.2).set (Int.toNat (w64 (sa.1+1))) (max 1 xb)))) (some (.inr (sa.2.1,sa.2.2)))) big (0,xj,xi)) λta=>
Zb (idx ta.1 (w64 ((zr c_2.2.1)-1))) λxo=>
some (ta.2,ta.1,(decide (xo<=50000))))) (λba=>some (ba.1,ba.2.1,ba.2.2)) tb)
def zbE (p_0:Plan) (l_1:Line):Option ((Option zn)×Bool):=
Zb (Zb (zdn p_0) λy5=>
cond (y5 !=0) (some true) (Zb (zX l_1.2.2.2.2.1 0 3600) λy7=>
some (!y7))) λc4=>
cond c4 (some ((none:Option zn),false)) (Zb (zby l_1) λyb=>
Zb (iter (σ:=(Int×(List Int)×(List Int)×(List Int)×(List Int))) (τ:=((List Int)×(List Int)×(List Int)×(List Int))⊕((Option zn)×Bool×(List Int)×(List Int)×(List Int)×(List Int))) (λsa=>
cond (decide (sa.1<2)) (Zb (idx yb sa.1) λxa=>
Zb (zbi p_0 l_1 xa) λya=>
Zb (idx [(),()] sa.1) λxb=>
Zb (idx [(),()] sa.1) λxd=>
cond (!ya.2.2) (some (.inr (.inr ((none:Option zn),false,cond (sa.1==0) ya.1 sa.2.1,cond (sa.1==1) ya.1 sa.2.2.1,cond (sa.1==0) ya.2.1 sa.2.2.2.1,cond (sa.1==1) ya.2.1 sa.2.2.2.2)))) (some (.inl ((w64 (sa.1+1)),cond (sa.1==0) ya.1 sa.2.1,cond (sa.1==1) ya.1 sa.2.2.1,cond (sa.1==0) ya.2.1 sa.2.2.2.1,cond (sa.1==1) ya.2.1 sa.2.2.2.2)))) (some (.inr (.inl (sa.2.1,sa.2.2.1,sa.2.2.2.1,sa.2.2.2.2))))) big (0,[],[],[],[])) λta=>
alt (λba=>some ((some (((l_1.1.1,l_1.1.2.1,l_1.1.2.2.1,()),(l_1.2.1.1,l_1.2.1.2.1,l_1.2.1.2.2.1,()),(l_1.2.2.1.1,l_1.2.2.1.2.1,l_1.2.2.1.2.2.1,l_1.2.2.1.2.2.2.1,l_1.2.2.1.2.2.2.2.1,l_1.2.2.1.2.2.2.2.2.1,l_1.2.2.1.2.2.2.2.2.2.1,l_1.2.2.1.2.2.2.2.2.2.2.1,l_1.2.2.1.2.2.2.2.2.2.2.2.1,l_1.2.2.1.2.2.2.2.2.2.2.2.2.1,()),l_1.2.2.2.1,l_1.2.2.2.2.1,()),[ba.1,ba.2.1],[ba.2.2.1,ba.2.2.2],())),true)) (λbb=>some (bb.1,bb.2.1)) ta)
def zdD (home_0:Bool):Option (Int):=
cond home_0 (some 1) (some 0)
def za1 (p_0:Plan) (l_1:Line) (home_2:Bool):Option ((List Int)×Int):=
Zb (zbE p_0 l_1) λy1=>
cond (!y1.2) (some ([],2)) (Zb (zdD home_2) λy6=>
Zb y1.1 λp7=>
Zb (idx p7.2.2.1 y6) λx8=>
some (x8,0))
def zz (r_0:zn) (side_1:Int):Option (Int):=
Zb (idx r_0.2.2.1 side_1) λx4=>
Zb (idx r_0.2.2.1 side_1) λx5=>
Zb (idx x4 (w64 ((zr x5)-1))) λx6=>
some x6
def za2 (r_0:zn):Option (Int):=
Zb (zz r_0 0) λy3=>
Zb (zz r_0 1) λy4=>
some (w64 ((w64 (y3+y4))+(w64 (2*r_0.1.2.2.2.2.1))))
def zcC (p_0:Plan) (l_1:Line):Option (Int×Int):=
Zb (zbE p_0 l_1) λy1=>
cond (!y1.2) (some (0,2)) (Zb y1.1 λp3=>
Zb (za2 p3) λy4=>
some (y4,0))
def zaO (r_0:zn) (headway_1:Int):Option (Int):=
Zb (za2 r_0) λy1=>
Zb (zcr .i64 (w64 ((w64 (y1+headway_1))-1)) headway_1) λx2=>
some x2
def zbF (p_0:Plan) (l_1:Line) (headway_2:Int):Option (Int×Int):=
Zb (zbE p_0 l_1) λy1=>
Zb (cond (!y1.2) (some true) (Zb (zX headway_2 30 7200) λy6=>
some (!y6))) λc4=>
cond c4 (some (0,2)) (Zb y1.1 λp8=>
Zb (zaO p8 headway_2) λy9=>
some (y9,0))
def zcq (length_0:Int):Option (Plan×Line):=
Zb (zcr .i64 length_0 2) λx5=>
Zb (zcr .i64 length_0 2) λx7=>
some ((([(((0,0,()),1,[((0,false,()):zm)],0,()):zcc),((((length_0,0,()):Spot),1,[((0,true,()):zm)],0,()):zcc)],[((0,1,[],8000,0,()):Rail)],()):Plan),(((([((0,false,()):zL)],[1000,x5,length_0],[0,20,0],()):Course),(([((0,true,()):zL)],[1000,x7,length_0],[0,10,0],()):Course),((1000,1000,8000,2000,2000,1000000,0,0,0,[1000],()):Train),0,30,()):Line))
def zaS :Option (Bool):=
Zb (zcq 21000) λy1=>
Zb (zbN y1.1 y1.2.1.1 y1.2.2.2.1 0 y1.2.1.2.1) λy4=>
Zb (za1 y1.1 y1.2 false) λy6=>
Zb (za1 y1.1 y1.2 true) λy7=>
Zb (zcC y1.1 y1.2) λy8=>
Zb (cond (y4.2 !=0) (some true) (cond (y6.2 !=0) (some true) (cond (y7.2 !=0) (some true) (cond (y8.2 !=0) (some true) (cond ((zr y4.1)!=2) (some true) (cond ((zr y6.1)!=3) (some true) (some ((zr y7.1)!=3)))))))) λca=>
cond ca (some false) (Zb (idx y4.1 0) λxb=>
Zb (zcr .i64 (w64 (xb+999)) 1000) λxa=>
Zb (idx y4.1 1) λxd=>
Zb (zcr .i64 (w64 (xd+999)) 1000) λxe=>
Zb (zbF y1.1 y1.2 y8.1) λya=>
Zb (zbF y1.1 y1.2 (w64 (y8.1-1))) λyb=>
Zb (Zb (idx y6.1 0) λxf=>
cond (xf==0) (Zb (idx y6.1 1) λxg=>
cond (xg==(w64 (xa+20))) (Zb (idx y6.1 2) λxh=>
cond (xh==(w64 ((w64 (xa+xe))+20))) (Zb (idx y6.1 2) λxi=>
Zb (idx y7.1 2) λxj=>
cond (y8.1==(w64 ((w64 (xi+xj))+60))) (cond (ya.2==0) (cond (yb.2==0) (cond (ya.1==1) (some (yb.1==2)) (some false)) (some false)) (some false)) (some false)) (some false)) (some false)) (some false)) λcc=>
some cc)
def zbT (n_0:Int) (low_1:Int) (high_2:Int):Option (Bool):=
Zb (cond (decide (n_0>=low_1)) (some (decide (n_0<=high_2))) (some false)) λc2=>
some c2
def zdE (l_0:Line) (home_1:Bool):Option (Course):=
cond home_1 (some l_0.2.1) (some l_0.1)
def zeK (p_0:Plan) (m_1:zL):Option (Bool):=
Zb (zaj m_1.1 0 (w64 ((zr p_0.2.1)-1))) λy1=>
some y1
def zfn (m_0:zL):Option (zm):=
some ((m_0.1,(!m_0.2.1),()):zm)
def zdo (n_0:zcc) (e_1:zm):Option (Int):=
Zb (iter (σ:=Int) (τ:=Unit⊕(Int)) (λs5=>
cond (decide (s5<(zr n_0.2.2.1))) (Zb (idx n_0.2.2.1 s5) λx9=>
cond (x9==e_1) (some (.inr (.inr s5))) (some (.inl (w64 (s5+1))))) (some (.inr (.inl ())))) big 0) λta=>
alt (λbb=>some (-1)) (λba=>some ba) ta
def zhe (m_0:zL):Option (zm):=
some ((m_0.1,m_0.2.1,()):zm)
def zeL (n_0:zcc) (a_1:Int) (b_2:Int):Option (Bool):=
cond (n_0.2.1==2) (some (a_1 !=b_2)) (cond (n_0.2.1==3) (Zb (cond (a_1 !=b_2) (Zb (zn3 (w64 (a_1+b_2)) 2) λx7=>
some (x7==0)) (some false)) λc5=>
some c5) (cond (n_0.2.1==4) (Zb (cond (a_1==0) (cond (decide (b_2>0)) (some true) (cond (decide (a_1>0)) (some (b_2==0)) (some false))) (cond (decide (a_1>0)) (some (b_2==0)) (some false))) λca=>
some ca) (cond (n_0.2.1==5) (Zb (cond (a_1==0) (cond (b_2==n_0.2.2.2.1) (some true) (cond (decide (a_1>0)) (some (b_2==0)) (some false))) (cond (decide (a_1>0)) (some (b_2==0)) (some false))) λcc=>
some cc) (cond (n_0.2.1==6) (Zb (cond (a_1==0) (cond (b_2==n_0.2.2.2.1) (some true) (cond (a_1==n_0.2.2.2.1) (some (b_2==0)) (some false))) (cond (a_1==n_0.2.2.2.1) (some (b_2==0)) (some false))) λcd=>
some cd) (some false)))))
def zcD (p_0:Plan) (m_1:zL) (n_2:zL):Option (Bool):=
Zb (zfn m_1) λy3=>
Zb (ze7 p_0 y3) λy4=>
Zb (idx p_0.1 y4) λx5=>
Zb (zfn m_1) λyc=>
Zb (zdo x5 yc) λya=>
Zb (zhe n_2) λyd=>
Zb (zdo x5 yd) λyb=>
Zb (cond (decide (ya>=0)) (cond (decide (yb>=0)) (Zb (zeL x5 ya yb) λye=>
some ye) (some false)) (some false)) λca=>
some ca
def zet (p_0:Plan) (l_1:(List zL)):Option (Bool):=
Zb (iter (σ:=Int) (τ:=Unit⊕(Bool)) (λsa=>
cond (decide (sa<(zr l_1))) (Zb (idx l_1 sa) λxa=>
Zb (zeK p_0 xa) λya=>
cond (!ya) (some (.inr (.inr false))) (cond (decide (sa>0)) (Zb (idx l_1 (w64 (sa-1))) λxb=>
Zb (idx l_1 sa) λxd=>
Zb (zcD p_0 xb xd) λyb=>
cond (!yb) (some (.inr (.inr false))) (some (.inl (w64 (sa+1))))) (some (.inl (w64 (sa+1)))))) (some (.inr (.inl ())))) big 0) λta=>
alt (λbb=>Zb (zaj (zr l_1) 1 2000) λyc=>
some yc) (λba=>some ba) ta
def zb4 (p_0:Plan) (l_1:(List zL)):Option (Int):=
Zb (iter (σ:=(Int×Int)) (τ:=Int) (λs6=>
cond (decide (s6.2<(zr l_1))) (Zb (idx l_1 s6.2) λxa=>
Zb (zaI p_0 xa.1) λya=>
some (.inl ((w64 (s6.1+ya)),(w64 (s6.2+1))))) (some (.inr s6.1))) big (0,0)) λta=>
some ta
def zbl (x_0:Int) (low_1:Int) (high_2:Int):Option (Bool):=
Zb (cond (decide (x_0>=low_1)) (some (decide (x_0<=high_2))) (some false)) λc2=>
some c2
def zeb (t_0:Train):Option (Bool):=
Zb (Zb (zbl t_0.1 1000 80000) λya=>
cond (!ya) (some true) (Zb (zbl t_0.2.1 1 60000) λyb=>
cond (!yb) (some true) (Zb (zbl t_0.2.2.1 1 25000) λyc=>
cond (!yc) (some true) (Zb (zbl t_0.2.2.2.1 1 200000) λyd=>
cond (!yd) (some true) (Zb (zbl t_0.2.2.2.2.1 1 200000) λye=>
cond (!ye) (some true) (Zb (zbl t_0.2.2.2.2.2.1 1 2000000) λyf=>
cond (!yf) (some true) (Zb (zbl t_0.2.2.2.2.2.2.1 0 100000) λyg=>
cond (!yg) (some true) (Zb (zbl t_0.2.2.2.2.2.2.2.1 0 10000) λyh=>
cond (!yh) (some true) (Zb (zbl t_0.2.2.2.2.2.2.2.2.1 0 100) λyi=>
cond (!yi) (some true) (Zb (zbl (zr t_0.2.2.2.2.2.2.2.2.2.1) 1 8) λyj=>
some (!yj))))))))))) λca=>
cond ca (some false) (Zb (iter (σ:=Int) (τ:=Unit⊕(Bool)) (λsa=>
cond (decide (sa<(zr t_0.2.2.2.2.2.2.2.2.2.1))) (Zb (idx t_0.2.2.2.2.2.2.2.2.2.1 sa) λxa=>
Zb (zbl xa 1 1000) λyk=>
cond (!yk) (some (.inr (.inr false))) (some (.inl (w64 (sa+1))))) (some (.inr (.inl ())))) big 0) λta=>
alt (λbb=>some true) (λba=>some ba) ta)
def zec (p_0:Plan) (way_1:(List zL)) (t_2:Train) (state_3:Int) (stops_4:(List Int)):Option (Bool):=
Zb (Zb (zcP p_0) λya=>
cond (!ya) (some true) (Zb (zet p_0 way_1) λyb=>
cond (!yb) (some true) (Zb (zeb t_2) λyc=>
cond (!yc) (some true) (Zb (zbl state_3 0 (w64 ((zr t_2.2.2.2.2.2.2.2.2.2.1)-1))) λyd=>
cond (!yd) (some true) (Zb (zbl (zr stops_4) 2 100) λye=>
cond (!ye) (some true) (Zb (idx stops_4 0) λxa=>
some (decide (xa<t_2.2.1)))))))) λca=>
cond ca (some false) (Zb (iter (σ:=Int) (τ:=Unit⊕(Bool)) (λsa=>
cond (decide (sa<(zr stops_4))) (Zb (idx stops_4 sa) λxb=>
Zb (idx stops_4 (w64 (sa-1))) λxd=>
cond (decide (xb<=xd)) (some (.inr (.inr false))) (some (.inl (w64 (sa+1))))) (some (.inr (.inl ())))) big 1) λta=>
alt (λbb=>Zb (idx stops_4 (w64 ((zr stops_4)-1))) λxe=>
Zb (zb4 p_0 way_1) λyf=>
some (decide (xe<=yf))) (λba=>some ba) ta)
def zU (t_0:Train) (x_1:zb):Option (Int):=
Zb (zcr .i64 x_1.2.1 (w64 (10*t_0.1))) λx1=>
some x1
def za8 (r_0:zag) (place_1:Int):Option (Int):=
Zb (iter (σ:=(Int×Int)) (τ:=Unit⊕(Int)) (λsa=>
cond (decide (sa.2<(zr r_0.2.1))) (Zb (idx r_0.2.1 sa.2) λxa=>
Zb (zaI r_0.1 xa.1) λya=>
cond (decide (place_1<(w64 (sa.1+ya)))) (Zb (idx r_0.2.1 sa.2) λxb=>
cond xb.2.1 (Zb (idx r_0.2.1 sa.2) λxd=>
Zb (idx r_0.1.2.1 xd.1) λxe=>
some (.inr (.inr (w64 (0-xe.2.2.2.2.1))))) (Zb (idx r_0.2.1 sa.2) λxf=>
Zb (idx r_0.1.2.1 xf.1) λxg=>
some (.inr (.inr xg.2.2.2.2.1)))) (cond (sa.2==(w64 ((zr r_0.2.1)-1))) (Zb (idx r_0.2.1 sa.2) λxh=>
cond xh.2.1 (Zb (idx r_0.2.1 sa.2) λxi=>
Zb (idx r_0.1.2.1 xi.1) λxj=>
some (.inr (.inr (w64 (0-xj.2.2.2.2.1))))) (Zb (idx r_0.2.1 sa.2) λxk=>
Zb (idx r_0.1.2.1 xk.1) λxl=>
some (.inr (.inr xl.2.2.2.2.1)))) (some (.inl ((w64 (sa.1+ya)),(w64 (sa.2+1))))))) (some (.inr (.inl ())))) big (0,0)) λta=>
alt (λbb=>some 0) (λba=>some ba) ta
def zdF (t_0:Train) (speed_1:Int) (demand_2:Int) (slope_3:Int) (state_4:Int):Option (Int×Int×Int×Int):=
Zb (idx t_0.2.2.2.2.2.2.2.2.2.1 state_4) λx3=>
Zb (zcr .i64 (w64 ((w64 (x3*t_0.1))*981)) 100000) λx4=>
cond (decide (demand_2>0)) (Zb (zcr .i64 (w64 (t_0.2.2.2.1*demand_2)) 4) λx6=>
cond (decide (speed_1>0)) (Zb (zcr .i64 (w64 (1000*t_0.2.2.2.2.2.1)) speed_1) λx8=>
cond (decide (demand_2<0)) (Zb (zcr .i64 (w64 (t_0.2.2.2.2.1*(w64 (0-demand_2)))) 4) λxa=>
Zb (zcr .i64 (w64 (t_0.2.2.2.2.2.2.2.1*speed_1)) 1000) λxb=>
Zb (zcr .i64 (w64 ((w64 (t_0.1*slope_3))*981)) 100000) λxd=>
some ((min (min x6 x4) x8),(min xa x4),(w64 (t_0.2.2.2.2.2.2.1+xb)),xd)) (Zb (zcr .i64 (w64 (t_0.2.2.2.2.2.2.2.1*speed_1)) 1000) λxe=>
Zb (zcr .i64 (w64 ((w64 (t_0.1*slope_3))*981)) 100000) λxf=>
some ((min (min x6 x4) x8),0,(w64 (t_0.2.2.2.2.2.2.1+xe)),xf))) (cond (decide (demand_2<0)) (Zb (zcr .i64 (w64 (t_0.2.2.2.2.1*(w64 (0-demand_2)))) 4) λxg=>
Zb (zcr .i64 (w64 (t_0.2.2.2.2.2.2.2.1*speed_1)) 1000) λxh=>
Zb (zcr .i64 (w64 ((w64 (t_0.1*slope_3))*981)) 100000) λxi=>
some ((min x6 x4),(min xg x4),(w64 (t_0.2.2.2.2.2.2.1+xh)),xi)) (Zb (zcr .i64 (w64 (t_0.2.2.2.2.2.2.2.1*speed_1)) 1000) λxj=>
Zb (zcr .i64 (w64 ((w64 (t_0.1*slope_3))*981)) 100000) λxk=>
some ((min x6 x4),0,(w64 (t_0.2.2.2.2.2.2.1+xj)),xk)))) (cond (decide (demand_2<0)) (Zb (zcr .i64 (w64 (t_0.2.2.2.2.1*(w64 (0-demand_2)))) 4) λxl=>
Zb (zcr .i64 (w64 (t_0.2.2.2.2.2.2.2.1*speed_1)) 1000) λxm=>
Zb (zcr .i64 (w64 ((w64 (t_0.1*slope_3))*981)) 100000) λxn=>
some (0,(min xl x4),(w64 (t_0.2.2.2.2.2.2.1+xm)),xn)) (Zb (zcr .i64 (w64 (t_0.2.2.2.2.2.2.2.1*speed_1)) 1000) λxo=>
Zb (zcr .i64 (w64 ((w64 (t_0.1*slope_3))*981)) 100000) λxp=>
some (0,0,(w64 (t_0.2.2.2.2.2.2.1+xo)),xp)))
def zaM (t_0:Train) (x_1:zb) (demand_2:Int) (slope_3:Int) (state_4:Int):Option (zb×zac×Bool):=
Zb (zcr .i64 x_1.1 t_0.1) λx5=>
Zb (zdF t_0 x5 demand_2 slope_3 state_4) λy6=>
Zb (cond (decide ((w64 (x_1.1+(w64 (100*(w64 ((w64 ((w64 (y6.1-y6.2.1))-y6.2.2.1))-y6.2.2.2))))))<0)) (some true) (cond (x_1.1==0) (some (decide ((w64 ((w64 ((w64 (y6.1-y6.2.1))-y6.2.2.1))-y6.2.2.2))<=0))) (some false))) λca=>
cond ca (some (((0,(w64 (x_1.2.1+0)),()):zb),(0,0,0,0,0,(w64 (x_1.1*x_1.1)),()),(decide (0<=(w64 (25000*t_0.1)))))) (some ((((w64 (x_1.1+(w64 (100*(w64 ((w64 ((w64 (y6.1-y6.2.1))-y6.2.2.1))-y6.2.2.2)))))),(w64 (x_1.2.1+(w64 (x_1.1+(w64 (100*(w64 ((w64 ((w64 (y6.1-y6.2.1))-y6.2.2.1))-y6.2.2.2)))))))),()):zb),(((w64 ((w64 (200*y6.1))*(w64 (x_1.1+(w64 (100*(w64 ((w64 ((w64 (y6.1-y6.2.1))-y6.2.2.1))-y6.2.2.2)))))))),(w64 ((w64 (200*y6.2.1))*(w64 (x_1.1+(w64 (100*(w64 ((w64 ((w64 (y6.1-y6.2.1))-y6.2.2.1))-y6.2.2.2)))))))),(w64 ((w64 (200*y6.2.2.1))*(w64 (x_1.1+(w64 (100*(w64 ((w64 ((w64 (y6.1-y6.2.1))-y6.2.2.1))-y6.2.2.2)))))))),(w64 ((w64 (200*y6.2.2.2))*(w64 (x_1.1+(w64 (100*(w64 ((w64 ((w64 (y6.1-y6.2.1))-y6.2.2.1))-y6.2.2.2)))))))),(w64 ((w64 (10000*(w64 ((w64 ((w64 (y6.1-y6.2.1))-y6.2.2.1))-y6.2.2.2))))*(w64 ((w64 ((w64 (y6.1-y6.2.1))-y6.2.2.1))-y6.2.2.2)))),0,()):zac),(decide ((w64 (x_1.1+(w64 (100*(w64 ((w64 ((w64 (y6.1-y6.2.1))-y6.2.2.1))-y6.2.2.2))))))<=(w64 (25000*t_0.1))))))
def zdG (p_0:Plan) (l_1:(List zL)) (front_2:Int) (length_3:Int):Option (List Cover):=
Zb (iter (σ:=((List Cover)×Int×Int)) (τ:=(List Cover)) (λsa=>
cond (decide (sa.2.2<(zr l_1))) (Zb (idx l_1 sa.2.2) λxa=>
Zb (zaI p_0 xa.1) λya=>
cond (decide ((w64 ((max (w64 (front_2-length_3)) sa.2.1)-sa.2.1))>=(w64 ((min front_2 (w64 (sa.2.1+ya)))-sa.2.1)))) (some (.inl (sa.1,(w64 (sa.2.1+ya)),(w64 (sa.2.2+1))))) (Zb (idx l_1 sa.2.2) λxb=>
cond xb.2.1 (Zb (idx l_1 sa.2.2) λxd=>
Zb (zcY 24 sa.1 ([((xd.1,(w64 (ya-(w64 ((min front_2 (w64 (sa.2.1+ya)))-sa.2.1)))),(w64 (ya-(w64 ((max (w64 (front_2-length_3)) sa.2.1)-sa.2.1)))),()):Cover)])) λxe=>
some (.inl (xe,(w64 (sa.2.1+ya)),(w64 (sa.2.2+1))))) (Zb (idx l_1 sa.2.2) λxf=>
Zb (zcY 24 sa.1 ([((xf.1,(w64 ((max (w64 (front_2-length_3)) sa.2.1)-sa.2.1)),(w64 ((min front_2 (w64 (sa.2.1+ya)))-sa.2.1)),()):Cover)])) λxg=>
some (.inl (xg,(w64 (sa.2.1+ya)),(w64 (sa.2.2+1))))))) (some (.inr sa.1))) big ([],0,0)) λta=>
some ta
def zdp (p_0:Plan) (way_1:(List zL)) (t_2:Train) (place_3:Int):Option (Int):=
Zb (zdG p_0 way_1 place_3 t_2.2.1) λy1=>
Zb (iter (σ:=(Int×Int)) (τ:=Int) (λs8=>
cond (decide (s8.2<(zr y1))) (Zb (idx y1 s8.2) λxa=>
Zb (idx p_0.2.1 xa.1) λxb=>
some (.inl ((min s8.1 xb.2.2.2.1),(w64 (s8.2+1))))) (some (.inr s8.1))) big (t_2.2.2.1,0)) λta=>
some ta
def zdW (r_0:zag) (x_1:zb):Option (Bool):=
Zb (iter (σ:=(Int×Int×Int)) (τ:=(Bool×Int×Int)) (λsa=>
Zb (zU r_0.2.2.1 (sa.2.1,sa.2.2,())) λyb=>
cond (decide (yb>r_0.2.2.2.2.1)) (some (.inr (false,sa.2.1,sa.2.2))) (Zb (zcr .i64 sa.2.1 r_0.2.2.1.1) λxa=>
Zb (zU r_0.2.2.1 (sa.2.1,sa.2.2,())) λyc=>
Zb (zdp r_0.1 r_0.2.1 r_0.2.2.1 yc) λyd=>
cond (decide (xa>yd)) (some (.inr (false,sa.2.1,sa.2.2))) (cond (sa.2.1==0) (some (.inr (true,sa.2.1,sa.2.2))) (cond (sa.1==36000) (some (.inr (false,sa.2.1,sa.2.2))) (Zb (zU r_0.2.2.1 (sa.2.1,sa.2.2,())) λye=>
Zb (za8 r_0 ye) λyf=>
Zb (zaM r_0.2.2.1 (sa.2.1,sa.2.2,()) (-4) yf r_0.2.2.2.1) λya=>
cond (!ya.2.2) (some (.inr (false,ya.1.1,ya.1.2.1))) (some (.inl ((w64 (sa.1+1)),ya.1.1,ya.1.2.1)))))))) big (0,x_1.1,x_1.2.1)) λta=>
some ta.1
def zci (r_0:zag) (x_1:zb):Option (Int×Bool):=
Zb (iter (σ:=Int) (τ:=Unit⊕(Int×Bool)) (λsa=>
cond (decide (sa>=(-4))) (Zb (zU r_0.2.2.1 x_1) λyb=>
Zb (za8 r_0 yb) λyc=>
Zb (zaM r_0.2.2.1 x_1 sa yc r_0.2.2.2.1) λya=>
cond ya.2.2 (Zb (zdW r_0 ya.1) λyd=>
cond yd (some (.inr (.inr (sa,true)))) (some (.inl (w64 (sa-1))))) (some (.inl (w64 (sa-1))))) (some (.inr (.inl ())))) big 4) λta=>
alt (λbb=>some (0,false)) (λba=>some (ba.1,ba.2)) ta
def zbG (t_0:Train) (x_1:zb) (demand_2:Int) (slope_3:Int) (state_4:Int):Option (Int×Int):=
Zb (zcr .i64 x_1.1 t_0.1) λx3=>
Zb (zdF t_0 x3 demand_2 slope_3 state_4) λy4=>
Zb (zaM t_0 x_1 demand_2 slope_3 state_4) λy5=>
Zb (zcr .i64 (w64 ((w64 ((w64 (y4.1*y5.1.1))+(w64 (1000*t_0.1))))-1)) (w64 (1000*t_0.1))) λxa=>
Zb (zcr .i64 (w64 ((w64 (y4.2.1*y5.1.1))*t_0.2.2.2.2.2.2.2.2.1)) (w64 (100000*t_0.1))) λxb=>
some (xa,xb)
def zeu (a_0:zac) (b_1:zac):Option (zac):=
some (((w64 (a_0.1+b_1.1)),(w64 (a_0.2.1+b_1.2.1)),(w64 (a_0.2.2.1+b_1.2.2.1)),(w64 (a_0.2.2.2.1+b_1.2.2.2.1)),(w64 (a_0.2.2.2.2.1+b_1.2.2.2.2.1)),(w64 (a_0.2.2.2.2.2.1+b_1.2.2.2.2.2.1)),()):zac)
def zed (p_0:Plan) (way_1:(List zL)) (t_2:Train) (state_3:Int) (stops_4:(List Int)):Option ((List Leg)×Bool):=
Zb (idx stops_4 0) λx3=>
Zb (iter (σ:=((List Leg)×Int×Int×Int)) (τ:=((List Leg)×Int×Int)⊕((List Leg)×Bool)) (λsb=>
cond (decide (sb.2.1<(zr stops_4))) (Zb (idx stops_4 sb.2.1) λxb=>
Zb (iter (σ:=(Int×Int×Int×Int×Int×Int×Int×Int×Int×Int×Int×Int)) (τ:=(Train×zb×Int×(List Int)×Int×Int×Int×Int×Bool×Int×Int×Int×Int×Int×Int×Int×Int×Int×Int×Int)⊕((List Leg)×Bool×Int×Int×Int×Int×Int×Int×Int×Int×Int×Int×Int)) (λsa=>
cond (decide (sa.2.2.2.2.2.2.2.2.2.2.1>0)) (cond (sa.1==36000) (some (.inr (.inr ([],false,sa.2.1,sa.2.2.1,sa.2.2.2.1,sa.2.2.2.2.1,sa.2.2.2.2.2.1,sa.2.2.2.2.2.2.1,sa.2.2.2.2.2.2.2.1,sa.2.2.2.2.2.2.2.2.1,sa.2.2.2.2.2.2.2.2.2.1,sa.2.2.2.2.2.2.2.2.2.2.1,sa.2.2.2.2.2.2.2.2.2.2.2)))) (cond (decide (sa.2.2.2.2.2.2.2.2.2.2.2>10000000000000000)) (some (.inr (.inr ([],false,sa.2.1,sa.2.2.1,sa.2.2.2.1,sa.2.2.2.2.1,sa.2.2.2.2.2.1,sa.2.2.2.2.2.2.1,sa.2.2.2.2.2.2.2.1,sa.2.2.2.2.2.2.2.2.1,sa.2.2.2.2.2.2.2.2.2.1,sa.2.2.2.2.2.2.2.2.2.2.1,sa.2.2.2.2.2.2.2.2.2.2.2)))) (Zb (zci ((p_0,way_1,t_2,state_3,xb,()):zag) (sa.2.2.2.2.2.2.2.2.2.2.1,sa.2.2.2.2.2.2.2.2.2.2.2,())) λyc=>
cond (!yc.2) (some (.inr (.inr ([],false,sa.2.1,sa.2.2.1,sa.2.2.2.1,sa.2.2.2.2.1,sa.2.2.2.2.2.1,sa.2.2.2.2.2.2.1,sa.2.2.2.2.2.2.2.1,sa.2.2.2.2.2.2.2.2.1,sa.2.2.2.2.2.2.2.2.2.1,sa.2.2.2.2.2.2.2.2.2.2.1,sa.2.2.2.2.2.2.2.2.2.2.2)))) (Zb (zU t_2 (sa.2.2.2.2.2.2.2.2.2.2.1,sa.2.2.2.2.2.2.2.2.2.2.2,())) λyl=>
Zb (za8 ((p_0,way_1,t_2,state_3,xb,()):zag) yl) λyh=>
Zb (zbG t_2 (sa.2.2.2.2.2.2.2.2.2.2.1,sa.2.2.2.2.2.2.2.2.2.2.2,()) yc.1 yh state_3) λyi=>
Zb (zaM t_2 (sa.2.2.2.2.2.2.2.2.2.2.1,sa.2.2.2.2.2.2.2.2.2.2.2,()) yc.1 yh state_3) λyd=>
Zb (zeu (sa.2.2.1,sa.2.2.2.1,sa.2.2.2.2.1,sa.2.2.2.2.2.1,sa.2.2.2.2.2.2.1,sa.2.2.2.2.2.2.2.1,()) yd.2.1) λya=>
some (.inl ((w64 (sa.1+1)),(w64 (sa.2.1+100)),ya.1,ya.2.1,ya.2.2.1,ya.2.2.2.1,ya.2.2.2.2.1,ya.2.2.2.2.2.1,(max sa.2.2.2.2.2.2.2.2.1 yi.1),(max sa.2.2.2.2.2.2.2.2.2.1 yi.2),yd.1.1,yd.1.2.1)))))) (Zb (zU t_2 (sa.2.2.2.2.2.2.2.2.2.2.1,sa.2.2.2.2.2.2.2.2.2.2.2,())) λye=>
Zb (idx stops_4 sb.2.1) λxa=>
cond (decide (ye<(w64 (xa-1000)))) (cond (sa.1==36000) (some (.inr (.inr ([],false,sa.2.1,sa.2.2.1,sa.2.2.2.1,sa.2.2.2.2.1,sa.2.2.2.2.2.1,sa.2.2.2.2.2.2.1,sa.2.2.2.2.2.2.2.1,sa.2.2.2.2.2.2.2.2.1,sa.2.2.2.2.2.2.2.2.2.1,sa.2.2.2.2.2.2.2.2.2.2.1,sa.2.2.2.2.2.2.2.2.2.2.2)))) (cond (decide (sa.2.2.2.2.2.2.2.2.2.2.2>10000000000000000)) (some (.inr (.inr ([],false,sa.2.1,sa.2.2.1,sa.2.2.2.1,sa.2.2.2.2.1,sa.2.2.2.2.2.1,sa.2.2.2.2.2.2.1,sa.2.2.2.2.2.2.2.1,sa.2.2.2.2.2.2.2.2.1,sa.2.2.2.2.2.2.2.2.2.1,sa.2.2.2.2.2.2.2.2.2.2.1,sa.2.2.2.2.2.2.2.2.2.2.2)))) (Zb (zci ((p_0,way_1,t_2,state_3,xb,()):zag) (sa.2.2.2.2.2.2.2.2.2.2.1,sa.2.2.2.2.2.2.2.2.2.2.2,())) λyf=>
cond (!yf.2) (some (.inr (.inr ([],false,sa.2.1,sa.2.2.1,sa.2.2.2.1,sa.2.2.2.2.1,sa.2.2.2.2.2.1,sa.2.2.2.2.2.2.1,sa.2.2.2.2.2.2.2.1,sa.2.2.2.2.2.2.2.2.1,sa.2.2.2.2.2.2.2.2.2.1,sa.2.2.2.2.2.2.2.2.2.2.1,sa.2.2.2.2.2.2.2.2.2.2.2)))) (Zb (zU t_2 (sa.2.2.2.2.2.2.2.2.2.2.1,sa.2.2.2.2.2.2.2.2.2.2.2,())) λym=>
Zb (za8 ((p_0,way_1,t_2,state_3,xb,()):zag) ym) λyj=>
Zb (zbG t_2 (sa.2.2.2.2.2.2.2.2.2.2.1,sa.2.2.2.2.2.2.2.2.2.2.2,()) yf.1 yj state_3) λyk=>
Zb (zaM t_2 (sa.2.2.2.2.2.2.2.2.2.2.1,sa.2.2.2.2.2.2.2.2.2.2.2,()) yf.1 yj state_3) λyg=>
Zb (zeu (sa.2.2.1,sa.2.2.2.1,sa.2.2.2.2.1,sa.2.2.2.2.2.1,sa.2.2.2.2.2.2.1,sa.2.2.2.2.2.2.2.1,()) yg.2.1) λyb=>
some (.inl ((w64 (sa.1+1)),(w64 (sa.2.1+100)),yb.1,yb.2.1,yb.2.2.1,yb.2.2.2.1,yb.2.2.2.2.1,yb.2.2.2.2.2.1,(max sa.2.2.2.2.2.2.2.2.1 yk.1),(max sa.2.2.2.2.2.2.2.2.2.1 yk.2),yg.1.1,yg.1.2.1)))))) (some (.inr (.inl (t_2,(sa.2.2.2.2.2.2.2.2.2.2.1,sa.2.2.2.2.2.2.2.2.2.2.2,()),ye,stops_4,sb.2.1,xa,xa,(w64 (xa-1000)),(decide (ye<(w64 (xa-1000)))),sa.2.1,sa.2.2.1,sa.2.2.2.1,sa.2.2.2.2.1,sa.2.2.2.2.2.1,sa.2.2.2.2.2.2.1,sa.2.2.2.2.2.2.2.1,sa.2.2.2.2.2.2.2.2.1,sa.2.2.2.2.2.2.2.2.2.1,sa.2.2.2.2.2.2.2.2.2.2.1,sa.2.2.2.2.2.2.2.2.2.2.2)))))) big (0,0,0,0,0,0,0,0,0,0,sb.2.2.1,sb.2.2.2)) λta=>
alt (λba=>Zb (zU t_2 (ba.2.2.2.2.2.2.2.2.2.2.2.2.2.2.2.2.2.2.1,ba.2.2.2.2.2.2.2.2.2.2.2.2.2.2.2.2.2.2.2,())) λyn=>
Zb (zcY 80 sb.1 ([(ba.2.2.2.2.2.2.2.2.2.1,yn,(ba.2.2.2.2.2.2.2.2.2.2.1,ba.2.2.2.2.2.2.2.2.2.2.2.1,ba.2.2.2.2.2.2.2.2.2.2.2.2.1,ba.2.2.2.2.2.2.2.2.2.2.2.2.2.1,ba.2.2.2.2.2.2.2.2.2.2.2.2.2.2.1,ba.2.2.2.2.2.2.2.2.2.2.2.2.2.2.2.1,()),ba.2.2.2.2.2.2.2.2.2.2.2.2.2.2.2.2.1,ba.2.2.2.2.2.2.2.2.2.2.2.2.2.2.2.2.2.1,())])) λxd=>
some (.inl (xd,(w64 (sb.2.1+1)),ba.2.2.2.2.2.2.2.2.2.2.2.2.2.2.2.2.2.2.1,ba.2.2.2.2.2.2.2.2.2.2.2.2.2.2.2.2.2.2.2))) (λbb=>some (.inr (.inr (bb.1,bb.2.1)))) ta) (some (.inr (.inl (sb.1,sb.2.2.1,sb.2.2.2))))) big ([],1,0,(w64 ((w64 (10*t_2.1))*x3)))) λtb=>
alt (λbc=>some (bc.1,(decide (bc.2.2<=10000000000000000)))) (λbd=>some (bd.1,bd.2)) tb
def zfo (p_0:Plan) (way_1:(List zL)) (t_2:Train) (state_3:Int) (stops_4:(List Int)):Option ((List Int)×Bool):=
Zb (zec p_0 way_1 t_2 state_3 stops_4) λy1=>
cond (!y1) (some ([],false)) (Zb (zed p_0 way_1 t_2 state_3 stops_4) λy3=>
Zb (iter (σ:=((List Int)×Int)) (τ:=(List Int)) (λs9=>
cond (decide (s9.2<(zr y3.1))) (Zb (idx y3.1 s9.2) λxa=>
Zb (zcY 8 s9.1 ([xa.1])) λxb=>
some (.inl (xb,(w64 (s9.2+1))))) (some (.inr s9.1))) big ([],0)) λta=>
some (ta,y3.2))
def zcM (p_0:Plan) (l_1:Line) (home_2:Bool):Option ((List Int)×Bool):=
Zb (zdE l_1 home_2) λy1=>
Zb (Zb (zet p_0 y1.1) λyb=>
cond (!yb) (some true) (Zb (zbT (zr y1.2.1) 2 60) λyc=>
cond (!yc) (some true) (cond ((zr y1.2.2.1)!=(zr y1.2.1)) (some true) (Zb (idx y1.2.2.1 0) λxa=>
cond (xa !=0) (some true) (Zb (idx y1.2.2.1 (w64 ((zr y1.2.2.1)-1))) λxb=>
some (xb !=0)))))) λca=>
cond ca (some ([],false)) (Zb (iter (σ:=Int) (τ:=Unit⊕((List Int)×Bool)) (λsa=>
cond (decide (sa<(zr y1.2.1))) (Zb (idx y1.2.1 sa) λxd=>
Zb (zb4 p_0 y1.1) λyd=>
Zb (zbT xd 1 yd) λye=>
cond (!ye) (some (.inr (.inr ([],false)))) (Zb (idx y1.2.2.1 sa) λxe=>
Zb (zbT xe 0 600) λyf=>
cond (!yf) (some (.inr (.inr ([],false)))) (cond (decide (sa>0)) (Zb (idx y1.2.1 sa) λxf=>
Zb (idx y1.2.1 (w64 (sa-1))) λxg=>
cond (decide (xf<=xg)) (some (.inr (.inr ([],false)))) (some (.inl (w64 (sa+1))))) (some (.inl (w64 (sa+1))))))) (some (.inr (.inl ())))) big 0) λta=>
alt (λbb=>Zb (zfo p_0 y1.1 l_1.2.2.1 l_1.2.2.2.1 y1.2.1) λya=>
cond (!ya.2) (some ([],false)) (Zb (iter (σ:=((List Int)×Int)) (τ:=(List Int)) (λsb=>
cond (decide (sb.2<(zr ya.1))) (Zb (idx ya.1 sb.2) λxh=>
Zb (zcr .i64 (w64 (xh+999)) 1000) λxi=>
Zb (zcY 8 sb.1 ([(max 1 xi)])) λxj=>
some (.inl (xj,(w64 (sb.2+1))))) (some (.inr sb.1))) big ([],0)) λtb=>
some (tb,true))) (λba=>some (ba.1,ba.2)) ta)
def zeM (p_0:Plan) (l_1:Line) (home_2:Bool):Option (List Int):=
Zb (zcM p_0 l_1 home_2) λy1=>
some y1.1
def zaa (p_0:Plan) (l_1:Line) (home_2:Bool):Option (List Int):=
Zb (zdE l_1 home_2) λy1=>
Zb (zeM p_0 l_1 home_2) λy3=>
Zb (iter (σ:=((List Int)×Int)) (τ:=(List Int)) (λsa=>
cond (decide (sa.2<(zr y3))) (Zb (idx sa.1 sa.2) λxa=>
Zb (idx y3 sa.2) λxb=>
Zb (idx y1.2.2.1 (w64 (sa.2+1))) λxd=>
Zb (zcY 8 sa.1 ([(w64 ((w64 (xa+xb))+xd))])) λxe=>
some (.inl (xe,(w64 (sa.2+1))))) (some (.inr sa.1))) big ([0],0)) λta=>
some ta
def zdX (p_0:Plan) (l_1:Line):Option (Bool):=
Zb (zbT l_1.2.2.2.2.1 0 3600) λy1=>
cond (!y1) (some false) (Zb (iter (σ:=Int) (τ:=Unit⊕(Bool)) (λsa=>
cond (decide (sa<2)) (Zb (zcM p_0 l_1 (sa==1)) λyb=>
cond (!yb.2) (some (.inr (.inr false))) (Zb (zaa p_0 l_1 (sa==1)) λya=>
Zb (idx ya (w64 ((zr ya)-1))) λxa=>
cond (decide (xa>50000)) (some (.inr (.inr false))) (some (.inl (w64 (sa+1)))))) (some (.inr (.inl ())))) big 0) λta=>
alt (λbb=>some true) (λba=>some ba) ta)
def za9 (p_0:Plan) (l_1:Line) (home_2:Bool):Option (Int):=
Zb (zaa p_0 l_1 home_2) λy1=>
Zb (idx y1 (w64 ((zr y1)-1))) λx3=>
some x3
def zdq (p_0:Plan) (l_1:Line):Option (Int):=
Zb (za9 p_0 l_1 false) λy3=>
Zb (za9 p_0 l_1 true) λy4=>
some (w64 ((w64 (y3+y4))+(w64 (2*l_1.2.2.2.2.1))))
def zfp (p_0:Plan) (s_1:Service):Option (Bool):=
Zb (iter (σ:=Int) (τ:=Unit⊕(Bool)) (λs5=>
cond (decide (s5<(zr s_1.1))) (Zb (idx s_1.1 s5) λx8=>
Zb (zcQ x8) λy9=>
cond (!y9) (some (.inr (.inr false))) (some (.inl (w64 (s5+1))))) (some (.inr (.inl ())))) big 0) λta=>
alt (λbb=>Zb (Zb (zd7 p_0) λya=>
cond ya (cond (decide ((zr s_1.1)<=3)) (cond (decide ((zr s_1.2.1)<=4)) (some (decide ((zr s_1.2.2.1)<=4))) (some false)) (some false)) (some false)) λca=>
some ca) (λba=>some ba) ta
def zdc (p_0:Plan) (s_1:Service):Option (Bool):=
Zb (Zb (zcP p_0) λy7=>
cond (!y7) (some true) (Zb (zbT (zr s_1.1) 1 20) λy9=>
cond (!y9) (some true) (cond ((zr s_1.2.1)!=(zr s_1.1)) (some true) (some ((zr s_1.2.2.1)!=(zr s_1.1)))))) λc6=>
cond c6 (some false) (Zb (iter (σ:=Int) (τ:=Unit⊕(Bool)) (λsa=>
cond (decide (sa<(zr s_1.1))) (Zb (idx s_1.1 sa) λxa=>
Zb (zdX p_0 xa) λya=>
cond (!ya) (some (.inr (.inr false))) (Zb (idx s_1.2.1 sa) λxb=>
Zb (zbT xb 30 7200) λyb=>
cond (!yb) (some (.inr (.inr false))) (Zb (idx s_1.2.2.1 sa) λxd=>
Zb (idx s_1.2.1 sa) λxe=>
Zb (zbT xd 0 (w64 (xe-1))) λyc=>
cond (!yc) (some (.inr (.inr false))) (some (.inl (w64 (sa+1))))))) (some (.inr (.inl ())))) big 0) λta=>
alt (λbb=>some true) (λba=>some ba) ta)
def zdd (p_0:Plan) (l_1:(List Line)):Option ((List zn)×Bool):=
Zb (zX (zr l_1) 1 20) λy1=>
cond (!y1) (some ([],false)) (Zb (iter (σ:=((List zn)×Int)) (τ:=(List zn)⊕((List zn)×Bool)) (λsa=>
cond (decide (sa.2<(zr l_1))) (Zb (idx l_1 sa.2) λxa=>
Zb (zbE p_0 xa) λya=>
cond (!ya.2) (some (.inr (.inr ([],false)))) (Zb ya.1 λpa=>
Zb (zcY 8 sa.1 ([pa])) λxb=>
some (.inl (xb,(w64 (sa.2+1)))))) (some (.inr (.inl sa.1)))) big ([],0)) λta=>
alt (λbb=>some (bb,true)) (λba=>some (ba.1,ba.2)) ta)
def zcE (p_0:Plan) (s_1:Service):Option ((List zn)×Bool):=
Zb (cond ((zr s_1.2.1)!=(zr s_1.1)) (some true) (some ((zr s_1.2.2.1)!=(zr s_1.1)))) λc2=>
cond c2 (some ([],false)) (Zb (iter (σ:=Int) (τ:=Unit⊕((List zn)×Bool)) (λsa=>
cond (decide (sa<(zr s_1.2.1))) (Zb (idx s_1.2.1 sa) λxa=>
Zb (zX xa 30 7200) λyb=>
cond (!yb) (some (.inr (.inr ([],false)))) (Zb (idx s_1.2.2.1 sa) λxb=>
Zb (zX xb 0 (w64 (xa-1))) λyc=>
cond (!yc) (some (.inr (.inr ([],false)))) (some (.inl (w64 (sa+1)))))) (some (.inr (.inl ())))) big 0) λta=>
alt (λbb=>Zb (zdd p_0 s_1.1) λya=>
some (ya.1,ya.2)) (λba=>some (ba.1,ba.2)) ta)
def zaP (r_0:zn) (side_1:Int) (headway_2:Int) (offset_3:Int):Option (Int):=
cond (side_1==0) (some offset_3) (Zb (zz r_0 0) λy6=>
Zb (zaO r_0 headway_2) λy7=>
Zb (za2 r_0) λy8=>
Zb (zcr .i64 (w64 ((w64 (y7*headway_2))-y8)) 2) λx9=>
some (w64 ((w64 ((w64 (offset_3+y6))+r_0.1.2.2.2.2.1))+x9)))
def zba (n_0:Int) (h_1:Int):Option (Int):=
Zb (zn3 n_0 h_1) λx1=>
Zb (zn3 (w64 (x1+h_1)) h_1) λx2=>
some x2
def zkp (all_0:(List zn)) (headway_1:Int) (offsets_2:(List Int)) (c_3:Connection):Option (Int):=
Zb (idx all_0 c_3.1) λx3=>
Zb (idx all_0 c_3.2.2.2.1) λx4=>
Zb (zdD c_3.2.1) λy7=>
Zb (zdD c_3.2.2.2.2.1) λy8=>
Zb (idx offsets_2 c_3.1) λxa=>
Zb (zaP x3 y7 headway_1 xa) λya=>
Zb (idx x3.2.2.1 y7) λxb=>
Zb (idx xb c_3.2.2.1) λxd=>
Zb (zby x3.1) λyb=>
Zb (idx yb y7) λxe=>
Zb (idx xe.2.2.1 c_3.2.2.1) λxf=>
Zb (idx offsets_2 c_3.2.2.2.1) λxg=>
Zb (zaP x4 y8 headway_1 xg) λyc=>
Zb (idx x4.2.2.1 y8) λxh=>
Zb (idx xh c_3.2.2.2.2.2.1) λxi=>
Zb (zba (w64 ((w64 ((w64 (yc+xi))-(w64 ((w64 (ya+xd))-xf))))-c_3.2.2.2.2.2.2.1)) headway_1) λyd=>
some (w64 (c_3.2.2.2.2.2.2.1+yd))
def zcR (a_0:Int) (n_1:Int):Option (Int):=
Zb (zn3 a_0 n_1) λx1=>
Zb (zn3 (w64 (x1+n_1)) n_1) λx2=>
some x2
def zde (p_0:Plan) (l_1:Line) (h_2:Int):Option (Int):=
Zb (zdq p_0 l_1) λy1=>
Zb (zcr .i64 (w64 ((w64 (y1+h_2))-1)) h_2) λx2=>
some x2
def zbO (p_0:Plan) (s_1:Service) (line_2:Int) (home_3:Bool):Option (Int):=
Zb (idx s_1.1 line_2) λx1=>
cond (!home_3) (Zb (idx s_1.2.2.1 line_2) λx4=>
some x4) (Zb (idx s_1.2.1 line_2) λx9=>
Zb (zde p_0 x1 x9) λya=>
Zb (idx s_1.2.1 line_2) λxa=>
Zb (zdq p_0 x1) λyb=>
Zb (idx s_1.2.2.1 line_2) λxb=>
Zb (za9 p_0 x1 false) λyc=>
Zb (zcr .i64 (w64 ((w64 (ya*xa))-yb)) 2) λxd=>
some (w64 ((w64 ((w64 (xb+yc))+x1.2.2.2.2.1))+xd)))
def zI (s_0:(List Works)) (f_1:((Works)->Option (Bool))):Option (Int):=
Zb (iter (σ:=Int) (τ:=Unit⊕(Int)) (λs5=>
cond (decide (s5<(zr s_0))) (Zb (idx s_0 s5) λx8=>
Zb (f_1 x8) λy9=>
cond y9 (some (.inr (.inr s5))) (some (.inl (w64 (s5+1))))) (some (.inr (.inl ())))) big 0) λta=>
alt (λbb=>some (-1)) (λba=>some ba) ta
def zM (s_0:(List Works)) (f_1:((Works)->Option (Bool))):Option (Bool):=
Zb (zI s_0 f_1) λy1=>
some (decide (y1>=0))
def zaF (x_0:Works) (p_1:Plan):Option (Bool):=
Zb (Zb (zX x_0.1 0 (w64 ((zr p_1.2.1)-1))) λy6=>
cond (!y6) (some true) (Zb (zX x_0.2.1 0 x_0.2.2.1) λy8=>
cond (!y8) (some true) (some (decide (x_0.2.2.1>200000))))) λc5=>
some c5
def zbD (p_0:Plan) (w_1:(List Works)):Option (Bool):=
Zb (cond (decide ((zr w_1)<=100)) (Zb (zM w_1 (λx=>zaF x p_0)) λy5=>
some (!y5)) (some false)) λc3=>
some c3
def zx {σ τ:Type} (step:σ->(Int×Int)->Option (σ⊕τ)) (s_:σ) (p_1:zn) (p_2:Int) (p_3:Int) (p_4:Int) (p_5:Int):Option (σ⊕τ):=
Zb (zaP p_1 p_2 p_3 p_4) λy1=>
Zb (zba (w64 (y1-p_5)) p_3) λy3=>
Zb (iter (σ:=(Int×(σ⊕τ))) (τ:=(σ⊕τ)) (λsa=>
Zb (zcr .i64 (w64 (sa.1-y1)) p_3) λxa=>
Zb (zaO p_1 p_3) λyb=>
Zb (zba xa yb) λyc=>
Zb (goL sa.2) λsb=>
Zb (step sb (sa.1,yc)) λya=>
cond (!(ya).isLeft) (some (.inr ya)) (some (.inl ((w64 (sa.1+p_3)),ya)))) big ((w64 (p_5+y3)),(.inl s_))) λta=>
some ta
def z6 (r_0:zn) (side_1:Int) (headway_2:Int) (offset_3:Int) (from_4:Int):Option (zn×Int×Int×Int×Int):=
some (r_0,side_1,headway_2,offset_3,from_4)
def zZ (s_0:(List zL)) (f_1:((zL)->Option (Bool))):Option (Int):=
Zb (iter (σ:=Int) (τ:=Unit⊕(Int)) (λs5=>
cond (decide (s5<(zr s_0))) (Zb (idx s_0 s5) λx8=>
Zb (f_1 x8) λy9=>
cond y9 (some (.inr (.inr s5))) (some (.inl (w64 (s5+1))))) (some (.inr (.inl ())))) big 0) λta=>
alt (λbb=>some (-1)) (λba=>some ba) ta
def zat (s_0:(List zL)) (f_1:((zL)->Option (Bool))):Option (Bool):=
Zb (zZ s_0 f_1) λy1=>
some (decide (y1>=0))
def zaJ (m_0:zL) (p_1:Works):Option (Bool):=
some (m_0.1==p_1.1)
def zae (x_0:Works) (p_1:(List zL)) (p_2:Int) (p_3:zn) (p_4:Int):Option (Bool):=
Zb (zat p_1 (λx=>zaJ x x_0)) λy1=>
Zb (cond y1 (cond (decide (p_2<x_0.2.2.1)) (Zb (zz p_3 p_4) λya=>
some (decide (x_0.2.1<(w64 (p_2+ya))))) (some false)) (some false)) λc8=>
some c8
def zaf (r_0:zn) (side_1:Int) (depart_2:Int) (w_3:(List Works)):Option (Bool):=
Zb (zby r_0.1) λy4=>
Zb (idx y4 side_1) λx5=>
Zb (zM w_3 (λx=>zae x x5.1 depart_2 r_0 side_1)) λy7=>
some (!y7)
def zdr (p_0:Plan) (w_1:(List Works)):Option (Bool):=
Zb (iter (σ:=Int) (τ:=Unit⊕(Bool)) (λsa=>
cond (decide (sa<(zr w_1))) (Zb (idx w_1 sa) λxa=>
Zb (zbT xa.1 0 (w64 ((zr p_0.2.1)-1))) λya=>
cond (!ya) (some (.inr (.inr false))) (Zb (idx w_1 sa) λxb=>
Zb (idx w_1 sa) λxd=>
Zb (zbT xb.2.1 0 xd.2.2.1) λyb=>
cond (!yb) (some (.inr (.inr false))) (Zb (idx w_1 sa) λxe=>
cond (decide (xe.2.2.1>200000)) (some (.inr (.inr false))) (some (.inl (w64 (sa+1))))))) (some (.inr (.inl ())))) big 0) λta=>
alt (λbb=>some (decide ((zr w_1)<=100))) (λba=>some ba) ta
def ze8 (a_0:Int) (n_1:Int):Option (Int):=
Zb (zcR (w64 (0-a_0)) n_1) λy1=>
Zb (zcr .i64 (w64 (a_0+y1)) n_1) λx2=>
some x2
def zdN (s_0:Service) (w_1:(List Works)) (t_2:Trip) (takes_3:Int):Option (Bool):=
Zb (idx s_0.1 t_2.1) λx3=>
Zb (zdE x3 t_2.2.1) λy4=>
Zb (iter (σ:=Int) (τ:=Unit⊕(Bool)) (λsa=>
cond (decide (sa<(zr w_1))) (Zb (iter (σ:=Int) (τ:=Unit⊕(Bool)) (λsb=>
cond (decide (sb<(zr y4.1))) (Zb (idx y4.1 sb) λxa=>
Zb (idx w_1 sa) λxb=>
cond (xa.1==xb.1) (Zb (idx w_1 sa) λxd=>
cond (decide (t_2.2.2.2.1<xd.2.2.1)) (Zb (idx w_1 sa) λxe=>
cond (decide (xe.2.1<(w64 (t_2.2.2.2.1+takes_3)))) (some (.inr (.inr false))) (some (.inl (w64 (sb+1))))) (some (.inl (w64 (sb+1))))) (some (.inl (w64 (sb+1))))) (some (.inr (.inl ())))) big 0) λta=>
alt (λbc=>some (.inl (w64 (sa+1)))) (λba=>some (.inr (.inr ba))) ta) (some (.inr (.inl ())))) big 0) λtb=>
alt (λbd=>some true) (λbb=>some bb) tb
def zfU   (rec:Int->(List Connection)->(List zn)->Int->(List Int)->(List Line)->Int->Option ((Bool)×(List Int)×Int)) (n_0:Int) (p_1:(List Connection)) (p_2:(List zn)) (p_3:Int) (p_4:(List Int)) (p_5:(List Line)) (p_6:Int):Option ((Bool)×(List Int)×Int):=
Zb (iter (σ:=Int) (τ:=Unit⊕(Bool)) (λsb=>
cond (decide (sb<(zr p_1))) (Zb (idx p_1 sb) λxa=>
cond ((max xa.1 xa.2.2.2.1)==(w64 (n_0-1))) (Zb (zkp p_2 p_3 p_4 xa) λyb=>
cond (decide (yb>xa.2.2.2.2.2.2.2.1)) (some (.inr (.inr false))) (some (.inl (w64 (sb+1))))) (some (.inl (w64 (sb+1))))) (some (.inr (.inl ())))) big 0) λta=>
alt (λbd=>cond (n_0==(zr p_5)) (some (true,p_4,p_6)) (Zb (idx p_4 n_0) λxe=>
Zb (iter (σ:=((List Int)×Int)) (τ:=((List Int)×Int)⊕(Bool×(List Int)×Int)) (λsa=>
Zb (idx sa.1 n_0) λxb=>
cond (decide (xb<p_3)) (cond (sa.2==100000) none (Zb (rec (w64 (n_0+1)) p_1 p_2 p_3 sa.1 p_5 (w64 (sa.2+1))) λya=>
cond ya.1 (some (.inr (.inr (true,ya.2.1,ya.2.2)))) (Zb (idx ya.2.1 n_0) λxd=>
Zb (idx ya.2.1 n_0) λxf=>
some (.inl ((ya.2.1).set (Int.toNat n_0) (w64 (xd+1)),ya.2.2))))) (some (.inr (.inl (sa.1,sa.2))))) big ((p_4).set (Int.toNat n_0) 0,p_6)) λtb=>
alt (λba=>Zb (idx ba.1 n_0) λxg=>
some (false,(ba.1).set (Int.toNat n_0) 0,ba.2)) (λbb=>some (bb.1,bb.2.1,bb.2.2)) tb)) (λbc=>some (bc,p_4,p_6)) ta
def zhs  :Nat->Int->(List Connection)->(List zn)->Int->(List Int)->(List Line)->Int->Option ((Bool)×(List Int)×Int)
 | 0=>λ_ _ _ _ _ _ _=>none
 | k+1=>zfU (zhs k)
def z8 (n_1:Int):Option (List Trip):=
cond (decide (n_1<0)) none (cond (decide ((w64 (n_1-(w64 (0-0))))>0)) (Zb (zn7 32 (w64 (n_1-(w64 (0-0)))) ((0,false,0,0,()):Trip)) λx3=>
Zb (slz x3) λx5=>
some ([]:List Trip)) (some ([])))
def zV (slices_0:(List (List Trip))):Option (List Trip):=
Zb (iter (σ:=(Int×Int)) (τ:=Int) (λs4=>
cond (decide (s4.2<(zr slices_0))) (Zb (idx slices_0 s4.2) λx7=>
cond (decide ((w64 (s4.1+(zr x7)))<0)) none (some (.inl ((w64 (s4.1+(zr x7))),(w64 (s4.2+1)))))) (some (.inr s4.1))) big (0,0)) λt9=>
Zb (z8 t9) λya=>
Zb (iter (σ:=((List Trip)×Int)) (τ:=(List Trip)) (λsa=>
cond (decide (sa.2<(zr slices_0))) (Zb (idx slices_0 sa.2) λxa=>
Zb (zcY 32 sa.1 xa) λxb=>
some (.inl (xb,(w64 (sa.2+1))))) (some (.inr sa.1))) big (ya,0)) λta=>
some ta
def zy   (data_0:(List Trip)) (a_1:Int) (b_2:Int) (cmp_3:((Trip×Trip)->Option (Int))):Option (List Trip):=
Zb (iter (σ:=(Int×(List Trip))) (τ:=(List Trip)) (λsb=>
cond (decide (sb.1<b_2)) (Zb (iter (σ:=(Int×(List Trip))) (τ:=(List Trip)) (λsa=>
cond (decide (sa.1>a_1)) (Zb (idx sa.2 sa.1) λxb=>
Zb (idx sa.2 (w64 (sa.1-1))) λxd=>
Zb (cmp_3 (xb,xd)) λya=>
cond (decide (ya<0)) (Zb (idx sa.2 (w64 (sa.1-1))) λxa=>
Zb (idx sa.2 sa.1) λxe=>
Zb (idx sa.2 sa.1) λxf=>
Zb (idx ((sa.2).set (Int.toNat sa.1) xa) (w64 (sa.1-1))) λxg=>
some (.inl ((w64 (sa.1-1)),((sa.2).set (Int.toNat sa.1) xa).set (Int.toNat (w64 (sa.1-1))) xe))) (some (.inr sa.2))) (some (.inr sa.2))) big (sb.1,sb.2)) λta=>
some (.inl ((w64 (sb.1+1)),ta))) (some (.inr sb.2))) big ((w64 (a_1+1)),data_0)) λtb=>
some tb
def zl   (data_0:(List Trip)) (a_1:Int) (b_2:Int) (n_3:Int) (cmp_4:((Trip×Trip)->Option (Int))):Option (List Trip):=
Zb (iter (σ:=(Int×(List Trip))) (τ:=(List Trip)) (λsa=>
cond (decide (sa.1<n_3)) (Zb (idx sa.2 (w64 (b_2+sa.1))) λxa=>
Zb (idx sa.2 (w64 (a_1+sa.1))) λxb=>
Zb (idx sa.2 (w64 (a_1+sa.1))) λxd=>
Zb (idx ((sa.2).set (Int.toNat (w64 (a_1+sa.1))) xa) (w64 (b_2+sa.1))) λxe=>
some (.inl ((w64 (sa.1+1)),((sa.2).set (Int.toNat (w64 (a_1+sa.1))) xa).set (Int.toNat (w64 (b_2+sa.1))) xb))) (some (.inr sa.2))) big (0,data_0)) λta=>
some ta
def zJ   (data_0:(List Trip)) (a_1:Int) (m_2:Int) (b_3:Int) (cmp_4:((Trip×Trip)->Option (Int))):Option (List Trip):=
Zb (iter (σ:=(Int×Int×(List Trip))) (τ:=(Int×(List Trip))) (λsa=>
cond (sa.1 !=sa.2.1) (cond (decide (sa.1>sa.2.1)) (Zb (zl sa.2.2 (w64 (m_2-sa.1)) m_2 sa.2.1 cmp_4) λya=>
some (.inl ((w64 (sa.1-sa.2.1)),sa.2.1,ya))) (Zb (zl sa.2.2 (w64 (m_2-sa.1)) (w64 ((w64 (m_2+sa.2.1))-sa.1)) sa.1 cmp_4) λyb=>
some (.inl (sa.1,(w64 (sa.2.1-sa.1)),yb)))) (some (.inr (sa.1,sa.2.2)))) big ((w64 (m_2-a_1)),(w64 (b_3-m_2)),data_0)) λta=>
Zb (zl ta.2 (w64 (m_2-ta.1)) m_2 ta.1 cmp_4) λyc=>
some yc
def zk   (rec:(List Trip)->Int->Int->Int->((Trip×Trip)->Option (Int))->Option (List Trip)) (data_0:(List Trip)) (a_1:Int) (m_2:Int) (b_3:Int) (cmp_4:((Trip×Trip)->Option (Int))):Option (List Trip):=
cond ((w64 (m_2-a_1))==1) (Zb (iter (σ:=(Int×Int)) (τ:=Int) (λsc=>
cond (decide (sc.1<sc.2)) (Zb (ziK .u64 (IntKind.u64.wrap (w64 (sc.1+sc.2))) 1) λxe=>
Zb (idx data_0 (w64 xe)) λxi=>
Zb (idx data_0 a_1) λxj=>
Zb (cmp_4 (xi,xj)) λyg=>
cond (decide (yg<0)) (some (.inl ((w64 ((w64 xe)+1)),sc.2))) (some (.inl (sc.1,(w64 xe))))) (some (.inr sc.1))) big (m_2,b_3)) λtc=>
Zb (iter (σ:=(Int×(List Trip))) (τ:=(List Trip)) (λsa=>
cond (decide (sa.1<(w64 (tc-1)))) (Zb (idx sa.2 (w64 (sa.1+1))) λxg=>
Zb (idx sa.2 sa.1) λxk=>
Zb (idx sa.2 sa.1) λxt=>
Zb (idx ((sa.2).set (Int.toNat sa.1) xg) (w64 (sa.1+1))) λxu=>
some (.inl ((w64 (sa.1+1)),((sa.2).set (Int.toNat sa.1) xg).set (Int.toNat (w64 (sa.1+1))) xk))) (some (.inr sa.2))) big (a_1,data_0)) λtd=>
some td) (cond ((w64 (b_3-m_2))==1) (Zb (iter (σ:=(Int×Int)) (τ:=Int) (λsd=>
cond (decide (sd.1<sd.2)) (Zb (ziK .u64 (IntKind.u64.wrap (w64 (sd.1+sd.2))) 1) λxf=>
Zb (idx data_0 m_2) λxl=>
Zb (idx data_0 (w64 xf)) λxm=>
Zb (cmp_4 (xl,xm)) λyh=>
cond (!(decide (yh<0))) (some (.inl ((w64 ((w64 xf)+1)),sd.2))) (some (.inl (sd.1,(w64 xf))))) (some (.inr sd.1))) big (a_1,m_2)) λte=>
Zb (iter (σ:=(Int×(List Trip))) (τ:=(List Trip)) (λsb=>
cond (decide (sb.1>te)) (Zb (idx sb.2 (w64 (sb.1-1))) λxh=>
Zb (idx sb.2 sb.1) λxn=>
Zb (idx sb.2 sb.1) λxv=>
Zb (idx ((sb.2).set (Int.toNat sb.1) xh) (w64 (sb.1-1))) λxw=>
some (.inl ((w64 (sb.1-1)),((sb.2).set (Int.toNat sb.1) xh).set (Int.toNat (w64 (sb.1-1))) xn))) (some (.inr sb.2))) big (m_2,data_0)) λtf=>
some tf) (Zb (ziK .u64 (IntKind.u64.wrap (w64 (a_1+b_3))) 1) λxa=>
cond (decide (m_2>(w64 xa))) (Zb (iter (σ:=(Int×Int)) (τ:=Int) (λse=>
cond (decide (se.1<se.2)) (Zb (ziK .u64 (IntKind.u64.wrap (w64 (se.1+se.2))) 1) λxb=>
Zb (idx data_0 (w64 ((w64 ((w64 ((w64 xa)+m_2))-1))-(w64 xb)))) λxo=>
Zb (idx data_0 (w64 xb)) λxp=>
Zb (cmp_4 (xo,xp)) λyi=>
cond (!(decide (yi<0))) (some (.inl ((w64 ((w64 xb)+1)),se.2))) (some (.inl (se.1,(w64 xb))))) (some (.inr se.1))) big ((w64 ((w64 ((w64 xa)+m_2))-b_3)),(w64 xa))) λta=>
Zb (cond (decide (ta<m_2)) (some (decide (m_2<(w64 ((w64 ((w64 xa)+m_2))-ta))))) (some false)) λca=>
cond ca (Zb (zJ data_0 ta m_2 (w64 ((w64 ((w64 xa)+m_2))-ta)) cmp_4) λya=>
Zb (cond (decide (a_1<ta)) (some (decide (ta<(w64 xa)))) (some false)) λcc=>
cond cc (Zb (rec ya a_1 ta (w64 xa) cmp_4) λyc=>
Zb (cond (decide ((w64 xa)<(w64 ((w64 ((w64 xa)+m_2))-ta)))) (some (decide ((w64 ((w64 ((w64 xa)+m_2))-ta))<b_3))) (some false)) λcd=>
cond cd (Zb (rec yc (w64 xa) (w64 ((w64 ((w64 xa)+m_2))-ta)) b_3 cmp_4) λyj=>
some yj) (some yc)) (Zb (cond (decide ((w64 xa)<(w64 ((w64 ((w64 xa)+m_2))-ta)))) (some (decide ((w64 ((w64 ((w64 xa)+m_2))-ta))<b_3))) (some false)) λce=>
cond ce (Zb (rec ya (w64 xa) (w64 ((w64 ((w64 xa)+m_2))-ta)) b_3 cmp_4) λyk=>
some yk) (some ya))) (Zb (cond (decide (a_1<ta)) (some (decide (ta<(w64 xa)))) (some false)) λcf=>
cond cf (Zb (rec data_0 a_1 ta (w64 xa) cmp_4) λyd=>
Zb (cond (decide ((w64 xa)<(w64 ((w64 ((w64 xa)+m_2))-ta)))) (some (decide ((w64 ((w64 ((w64 xa)+m_2))-ta))<b_3))) (some false)) λcg=>
cond cg (Zb (rec yd (w64 xa) (w64 ((w64 ((w64 xa)+m_2))-ta)) b_3 cmp_4) λyl=>
some yl) (some yd)) (Zb (cond (decide ((w64 xa)<(w64 ((w64 ((w64 xa)+m_2))-ta)))) (some (decide ((w64 ((w64 ((w64 xa)+m_2))-ta))<b_3))) (some false)) λch=>
cond ch (Zb (rec data_0 (w64 xa) (w64 ((w64 ((w64 xa)+m_2))-ta)) b_3 cmp_4) λym=>
some ym) (some data_0)))) (Zb (iter (σ:=(Int×Int)) (τ:=Int) (λsf=>
cond (decide (sf.1<sf.2)) (Zb (ziK .u64 (IntKind.u64.wrap (w64 (sf.1+sf.2))) 1) λxd=>
Zb (idx data_0 (w64 ((w64 ((w64 ((w64 xa)+m_2))-1))-(w64 xd)))) λxq=>
Zb (idx data_0 (w64 xd)) λxr=>
Zb (cmp_4 (xq,xr)) λyn=>
cond (!(decide (yn<0))) (some (.inl ((w64 ((w64 xd)+1)),sf.2))) (some (.inl (sf.1,(w64 xd))))) (some (.inr sf.1))) big (a_1,m_2)) λtb=>
Zb (cond (decide (tb<m_2)) (some (decide (m_2<(w64 ((w64 ((w64 xa)+m_2))-tb))))) (some false)) λci=>
cond ci (Zb (zJ data_0 tb m_2 (w64 ((w64 ((w64 xa)+m_2))-tb)) cmp_4) λyb=>
Zb (cond (decide (a_1<tb)) (some (decide (tb<(w64 xa)))) (some false)) λcj=>
cond cj (Zb (rec yb a_1 tb (w64 xa) cmp_4) λye=>
Zb (cond (decide ((w64 xa)<(w64 ((w64 ((w64 xa)+m_2))-tb)))) (some (decide ((w64 ((w64 ((w64 xa)+m_2))-tb))<b_3))) (some false)) λck=>
cond ck (Zb (rec ye (w64 xa) (w64 ((w64 ((w64 xa)+m_2))-tb)) b_3 cmp_4) λyo=>
some yo) (some ye)) (Zb (cond (decide ((w64 xa)<(w64 ((w64 ((w64 xa)+m_2))-tb)))) (some (decide ((w64 ((w64 ((w64 xa)+m_2))-tb))<b_3))) (some false)) λcl=>
cond cl (Zb (rec yb (w64 xa) (w64 ((w64 ((w64 xa)+m_2))-tb)) b_3 cmp_4) λyp=>
some yp) (some yb))) (Zb (cond (decide (a_1<tb)) (some (decide (tb<(w64 xa)))) (some false)) λcm=>
cond cm (Zb (rec data_0 a_1 tb (w64 xa) cmp_4) λyf=>
Zb (cond (decide ((w64 xa)<(w64 ((w64 ((w64 xa)+m_2))-tb)))) (some (decide ((w64 ((w64 ((w64 xa)+m_2))-tb))<b_3))) (some false)) λcn=>
cond cn (Zb (rec yf (w64 xa) (w64 ((w64 ((w64 xa)+m_2))-tb)) b_3 cmp_4) λyq=>
some yq) (some yf)) (Zb (cond (decide ((w64 xa)<(w64 ((w64 ((w64 xa)+m_2))-tb)))) (some (decide ((w64 ((w64 ((w64 xa)+m_2))-tb))<b_3))) (some false)) λco=>
cond co (Zb (rec data_0 (w64 xa) (w64 ((w64 ((w64 xa)+m_2))-tb)) b_3 cmp_4) λyr=>
some yr) (some data_0))))))
def zq  :Nat->(List Trip)->Int->Int->Int->((Trip×Trip)->Option (Int))->Option (List Trip)
 | 0=>λ_ _ _ _ _=>none
 | k+1=>zk (zq k)
def zah   (data_0:(List Trip)) (n_1:Int) (cmp_2:((Trip×Trip)->Option (Int))):Option (List Trip):=
Zb (iter (σ:=(Int×Int×(List Trip))) (τ:=(Int×(List Trip))) (λs7=>
cond (decide (s7.2.1<=n_1)) (Zb (zy s7.2.2 s7.1 s7.2.1 cmp_2) λya=>
some (.inl (s7.2.1,(w64 (s7.2.1+20)),ya))) (some (.inr (s7.1,s7.2.2)))) big (0,20,data_0)) λtb=>
Zb (zy tb.2 tb.1 n_1 cmp_2) λyb=>
Zb (iter (σ:=(Int×(List Trip))) (τ:=(List Trip)) (λsa=>
cond (decide (sa.1<n_1)) (Zb (iter (σ:=(Int×Int×(List Trip))) (τ:=(Int×(List Trip))) (λsb=>
cond (decide (sb.2.1<=n_1)) (Zb (zq big sb.2.2 sb.1 (w64 (sb.1+sa.1)) sb.2.1 cmp_2) λyc=>
some (.inl (sb.2.1,(w64 (sb.2.1+(w64 (2*sa.1)))),yc))) (some (.inr (sb.1,sb.2.2)))) big (0,(w64 (2*sa.1)),sa.2)) λta=>
cond (decide ((w64 (ta.1+sa.1))<n_1)) (Zb (zq big ta.2 ta.1 (w64 (ta.1+sa.1)) n_1 cmp_2) λyd=>
some (.inl ((w64 (sa.1*2)),yd))) (some (.inl ((w64 (sa.1*2)),ta.2)))) (some (.inr sa.2))) big (20,yb)) λtc=>
some tc
def zD   (x_0:(List Trip)) (cmp_1:((Trip×Trip)->Option (Int))):Option (List Trip):=
Zb (zah x_0 (zr x_0) cmp_1) λy1=>
some y1
def zaK (order_0:((Trip×Trip)->Option (Int))) (l_1:(List (List Trip))):Option (List Trip):=
Zb (zV l_1) λy1=>
Zb (zD y1 order_0) λy3=>
some y3
def zds (x_0:Int) (y_1:Int):Option (Int):=
Zb (zbf x_0) λy1=>
Zb (zbf y_1) λy2=>
cond y1 (cond y2 (some 0) (some (-1))) (cond y2 (some 1) (cond (decide (x_0<y_1)) (some (-1)) (cond (decide (x_0>y_1)) (some 1) (some 0))))
def zb5 (a_0:Trip) (b_1:Trip):Option (Int):=
Zb (zds a_0.2.2.2.1 b_1.2.2.2.1) λy1=>
some y1
def zaY (p_0:Plan) (s_1:Service) (w_2:(List Works)) (from_3:Int) (until_4:Int):Option ((List Trip)×Int):=
Zb (zcE p_0 s_1) λy1=>
Zb (cond (!y1.2) (some true) (Zb (zbD p_0 w_2) λy9=>
cond (!y9) (some true) (Zb (zX from_3 0 until_4) λyc=>
cond (!yc) (some true) (some (decide (until_4>200000)))))) λc7=>
cond c7 (some ([],2)) (Zb (iter (σ:=((List (List Trip))×Int)) (τ:=(List (List Trip))) (λsb=>
cond (decide (sb.2<(zr y1.1))) (Zb (idx y1.1 sb.2) λxb=>
Zb (iter (σ:=((List (List Trip))×Int)) (τ:=(List (List Trip))) (λsa=>
cond (decide (sa.2<2)) (Zb (idx s_1.2.1 sb.2) λxd=>
Zb (idx s_1.2.2.1 sb.2) λxe=>
Zb (z6 xb sa.2 xd xe from_3) λya=>
Zb (zx (σ:=(List Trip)) (τ:=(List Trip)) (λsc xa=>
Zb (zz xb sa.2) λyd=>
cond (decide ((w64 (xa.1+yd))>until_4)) (some (.inr sc)) (Zb (zaf xb sa.2 xa.1 w_2) λye=>
cond ye (Zb (zcY 32 sc ([((sb.2,(sa.2==1),xa.2,xa.1,()):Trip)])) λxf=>
some (.inl xf)) (some (.inl sc)))) ([]) ya.1 ya.2.1 ya.2.2.1 ya.2.2.2.1 ya.2.2.2.2) λta=>
alt (λba=>Zb (zcY 24 sa.1 ([ba])) λxg=>
some (.inl (xg,(w64 (sa.2+1))))) (λbb=>Zb (zcY 24 sa.1 ([bb])) λxh=>
some (.inl (xh,(w64 (sa.2+1))))) ta) (some (.inr sa.1))) big (sb.1,0)) λtb=>
some (.inl (tb,(w64 (sb.2+1))))) (some (.inr sb.1))) big ([],0)) λtc=>
Zb (zaK (λx=>zb5 x.1 x.2) tc) λyb=>
cond (decide ((zr yb)>5000)) (some ([],3)) (some (yb,0)))
def zcF (a_0:(List Trip)) (b_1:(List Trip)):Option (Bool):=
cond ((zr a_0)!=(zr b_1)) (some false) (Zb (iter (σ:=Int) (τ:=Unit⊕(Bool)) (λs8=>
cond (decide (s8<(zr a_0))) (Zb (idx a_0 s8) λxa=>
Zb (idx b_1 s8) λxb=>
cond (xa !=xb) (some (.inr (.inr false))) (some (.inl (w64 (s8+1))))) (some (.inr (.inl ())))) big 0) λta=>
alt (λbb=>some true) (λba=>some ba) ta)
def zal (a_0:Trip) (b_1:Trip):Option (Bool):=
cond (a_0.2.2.2.1 !=b_1.2.2.2.1) (some (decide (a_0.2.2.2.1<b_1.2.2.2.1))) (cond (a_0.1 !=b_1.1) (some (decide (a_0.1<b_1.1))) (Zb (cond (!a_0.2.1) (some b_1.2.1) (some false)) λc4=>
some c4))
def zee (p_0:Plan) (s_1:Service) (w_2:(List Works)) (from_3:Int) (until_4:Int):Option (List Trip):=
Zb (iter (σ:=((List Trip)×Int)) (τ:=(List Trip)) (λsb=>
cond (decide (sb.2<(zr s_1.1))) (Zb (iter (σ:=((List Trip)×Int)) (τ:=(List Trip)) (λsd=>
cond (decide (sd.2<2)) (Zb (idx s_1.2.1 sb.2) λxa=>
Zb (zbO p_0 s_1 sb.2 (sd.2==1)) λya=>
Zb (idx s_1.1 sb.2) λxb=>
Zb (za9 p_0 xb (sd.2==1)) λyb=>
Zb (idx s_1.1 sb.2) λxd=>
Zb (zde p_0 xd xa) λyd=>
Zb (ze8 (w64 (from_3-ya)) xa) λye=>
Zb (iter (σ:=((List Trip)×Int)) (τ:=(List Trip)) (λsc=>
cond (decide ((w64 ((w64 (ya+(w64 (sc.2*xa))))+yb))<=until_4)) (Zb (zcR sc.2 yd) λyc=>
Zb (zdN s_1 w_2 ((sb.2,(sd.2==1),yc,(w64 (ya+(w64 (sc.2*xa)))),()):Trip) yb) λyf=>
cond yf (Zb (zcY 32 sc.1 ([((sb.2,(sd.2==1),yc,(w64 (ya+(w64 (sc.2*xa)))),()):Trip)])) λxe=>
some (.inl (xe,(w64 (sc.2+1))))) (some (.inl (sc.1,(w64 (sc.2+1)))))) (some (.inr sc.1))) big (sd.1,ye)) λtb=>
some (.inl (tb,(w64 (sd.2+1))))) (some (.inr sd.1))) big (sb.1,0)) λtc=>
some (.inl (tc,(w64 (sb.2+1))))) (some (.inr sb.1))) big ([],0)) λta=>
Zb (iter (σ:=(List Trip)) (τ:=(List Trip)) (λse=>
cond (decide ((zr se)<(zr ta))) (Zb (iter (σ:=(Int×Int)) (τ:=Int) (λsa=>
cond (decide (sa.2<(zr ta))) (cond ((zr se)==0) (cond (decide (sa.1<0)) (some (.inl (sa.2,(w64 (sa.2+1))))) (Zb (idx ta sa.2) λxf=>
Zb (idx ta sa.1) λxg=>
Zb (zal xf xg) λyg=>
cond yg (some (.inl (sa.2,(w64 (sa.2+1))))) (some (.inl (sa.1,(w64 (sa.2+1))))))) (Zb (idx se (w64 ((zr se)-1))) λxh=>
Zb (idx ta sa.2) λxi=>
Zb (zal xh xi) λyh=>
cond yh (cond (decide (sa.1<0)) (some (.inl (sa.2,(w64 (sa.2+1))))) (Zb (idx ta sa.2) λxj=>
Zb (idx ta sa.1) λxk=>
Zb (zal xj xk) λyi=>
cond yi (some (.inl (sa.2,(w64 (sa.2+1))))) (some (.inl (sa.1,(w64 (sa.2+1))))))) (some (.inl (sa.1,(w64 (sa.2+1))))))) (some (.inr sa.1))) big ((-1),0)) λtd=>
Zb (idx ta td) λxl=>
Zb (zcY 32 se ([xl])) λxm=>
some (.inl xm)) (some (.inr se))) big ([])) λte=>
some te
def zbX (p_0:Plan) (s_1:Service) (w_2:(List Works)) (from_3:Int) (until_4:Int):Option (Bool):=
Zb (Zb (zfp p_0 s_1) λy4=>
cond (!y4) (some true) (some (decide ((zr w_2)>6)))) λc3=>
cond c3 (Zb zaS λy7=>
some y7) (Zb (zaY p_0 s_1 w_2 from_3 until_4) λy8=>
Zb (Zb (zdc p_0 s_1) λya=>
cond (!ya) (some true) (Zb (zdr p_0 w_2) λyb=>
cond (!yb) (some true) (cond (decide (from_3<0)) (some true) (cond (decide (from_3>until_4)) (some true) (some (decide (until_4>200000))))))) λca=>
cond ca (Zb (cond (y8.2==2) (cond ((zr y8.1)==0) (Zb zaS λyc=>
some yc) (some false)) (some false)) λcc=>
some cc) (cond (decide ((w64 (until_4-from_3))>3000)) (Zb zaS λyd=>
some yd) (cond (y8.2==0) (Zb (zee p_0 s_1 w_2 from_3 until_4) λye=>
Zb (zcF y8.1 ye) λyf=>
cond yf (Zb zaS λyg=>
some yg) (some false)) (some false))))
def zb9 (headway_0:Int) (until_1:Int):Option (Bool):=
Zb (cond (decide (headway_0<30)) (some true) (cond (decide (headway_0>200)) (some true) (cond (decide (until_1<100000)) (some true) (some (decide (until_1>200000)))))) λc4=>
cond c4 (Zb zaS λy9=>
some y9) (Zb (zcq 21000) λya=>
Zb (zaa ya.1 ya.2 false) λyc=>
Zb (zaa ya.1 ya.2 true) λyd=>
Zb (idx yc 2) λxd=>
Zb (zcr .i64 (w64 (until_1-xd)) headway_0) λxa=>
Zb (zbO ya.1 (([ya.2],[headway_0],[0],()):Service) 0 true) λye=>
Zb (zcR ye headway_0) λyf=>
Zb (idx yd 2) λxe=>
Zb (zcr .i64 (w64 ((w64 (until_1-xe))-yf)) headway_0) λxb=>
Zb (zaY ya.1 (([ya.2],[headway_0],[0],()):Service) ([]) 0 until_1) λyb=>
cond (decide ((w64 ((w64 (xa+1))+(w64 (xb+1))))>5000)) (Zb (cond (yb.2==3) (cond ((zr yb.1)==0) (Zb zaS λyg=>
some yg) (some false)) (some false)) λca=>
some ca) (Zb (cond (yb.2==0) (cond ((zr yb.1)==(w64 ((w64 (xa+1))+(w64 (xb+1))))) (Zb zaS λyh=>
some yh) (some false)) (some false)) λcc=>
some cc))
end Go.Ai.Sx