/- Written by program: the data of the functions,and the functions as plain Lean. -/
import Derived.Test.YtghlaibcihhbcaaGreatK7
set_option linter.unusedSimpArgs false
set_option linter.unusedVariables false
set_option linter.unusedSectionVars false
namespace Go.Ai.Sx
open Option renaming bind->Zb,bind_some->Zs
abbrev Spot:Type:=Int×Int×Unit
abbrev zn:Type:=Int×Bool×Unit
abbrev zcM:Type:=Spot×Int×(List zn)×Int×Unit
abbrev Rail:Type:=Int×Int×(List Spot)×Int×Int×Unit
abbrev Plan:Type:=(List zcM)×(List Rail)×Unit
abbrev zR:Type:=Int×Bool×Unit
abbrev Course:Type:=(List zR)×(List Int)×(List Int)×Unit
abbrev Train:Type:=Int×Int×Int×Int×Int×Int×Int×Int×Int×(List Int)×Unit
abbrev Line:Type:=Course×Course×Train×Int×Int×Unit
abbrev Service:Type:=(List Line)×(List Int)×(List Int)×Unit
abbrev Task:Type:=Int×Int×Int×Int×Unit
abbrev Yard:Type:=(List (List Int))×Int×(List Bool)×Unit
abbrev zaz:Type:=(List Task)×Yard×Unit
abbrev zke:Type:=(List Int)×(List Int)×Unit
abbrev zeN:Type:=Int×Int×Int×Int×Int×Int×Unit
abbrev zaM:Type:=zaz×(List (List Int))×zeN×Unit
abbrev zT:Type:=Int×Int×Int×Unit
abbrev Duty:Type:=(List zT)×Unit
abbrev zf:Type:=Duty×Int×Int×Unit
abbrev zbF:Type:=Int×Int×Unit
abbrev za4:Type:=Plan×(List Int)×(List (zn×Int))×Unit
abbrev zjb:Type:=Plan×Unit×ze×Unit
abbrev zav:Type:=zcM×Unit
abbrev zan:Type:=Train×Int×Unit
abbrev zau:Type:=zan×(List zR)×(List Int)×(List Int)×(List Int)×(List Int)×Unit
abbrev zkF:Type:=zan×(List zR)×Unit×Unit×Unit×(List Int)×Unit
abbrev zb:Type:=Int×Int×Unit
abbrev zX:Type:=Int×Int×Int×Int×Int×Int×Unit
abbrev za2:Type:=zb×zX×Int×Int×Unit
abbrev Leg:Type:=Int×Int×zX×Int×Int×Unit
abbrev zO:Type:=Line×(List (List Int))×(List (List Int))×Unit
abbrev Trip:Type:=Int×Bool×Int×Int×Unit
abbrev z6:Type:=Plan×(List zR)×Train×Int×Int×Unit
abbrev Cover:Type:=Int×Int×Int×Unit
abbrev zcj:Rep Spot:=(zz (zh .i64) (zz (zh .i64) zce))
abbrev zQ:Rep zn:=(zz (zh .i64) (zz zu zce))
abbrev zb5:Rep zcM:=(zz zcj (zz (zh .i64) (zz (zd zQ) (zz (zh .i64) zce))))
abbrev zex:Rep Rail:=(zz (zh .i64) (zz (zh .i64) (zz (zd zcj) (zz (zh .i64) (zz (zh .i64) zce)))))
abbrev zbJ:Rep Plan:=(zz (zd zb5) (zz (zd zex) zce))
abbrev z5:Rep zR:=(zz (zh .i64) (zz zu zce))
abbrev zcU:Rep Course:=(zz (zd z5) (zz (zd (zh .i64)) (zz (zd (zh .i64)) zce)))
abbrev zbG:Rep Train:=(zz (zh .i64) (zz (zh .i64) (zz (zh .i64) (zz (zh .i64) (zz (zh .i64) (zz (zh .i64) (zz (zh .i64) (zz (zh .i64) (zz (zh .i64) (zz (zd (zh .i64)) zce))))))))))
abbrev ze3:Rep Line:=(zz zcU (zz zcU (zz zbG (zz (zh .i64) (zz (zh .i64) zce)))))
abbrev zc0:Rep Service:=(zz (zd ze3) (zz (zd (zh .i64)) (zz (zd (zh .i64)) zce)))
abbrev zby:Rep Task:=(zz (zh .i64) (zz (zh .i64) (zz (zh .i64) (zz (zh .i64) zce))))
abbrev zih:Rep Yard:=(zz (zd (zd (zh .i64))) (zz (zh .i64) (zz (zd zu) zce)))
abbrev zJ:Rep zaz:=(zz (zd zby) (zz zih zce))
abbrev zfm:Rep zke:=(zz (zd (zh .i64)) (zz (zd (zh .i64)) zce))
abbrev zbA:Rep zeN:=(zz (zh .i64) (zz (zh .i64) (zz (zh .i64) (zz (zh .i64) (zz (zh .i64) (zz (zh .i64) zce))))))
abbrev zY:Rep zaM:=(zz (zS zJ) (zz (zd (zd (zh .i64))) (zz zbA zce)))
abbrev zr:Rep zT:=(zz (zh .i64) (zz (zh .i64) (zz (zh .i64) zce)))
abbrev zck:Rep Duty:=(zz (zd zr) zce)
abbrev zg:Rep zf:=(zz zck (zz (zh .u64) (zz (zh .i64) zce)))
abbrev zaC:Rep zbF:=(zz (zh .i64) (zz (zh .i64) zce))
abbrev z9:Rep za4:=(zz zbJ (zz (zd (zh .i64)) (zz (zp8 zQ (zh .i64)) zce)))
abbrev ziI:Rep zjb:=(zz zbJ (zz zs5 (zz zpI zce)))
abbrev zaq:Rep zav:=(zz zb5 zce)
abbrev zI:Rep zan:=(zz zbG (zz (zh .i64) zce))
abbrev zaw:Rep zau:=(zz (zS zI) (zz (zd z5) (zz (zd (zh .i64)) (zz (zd (zh .i64)) (zz (zd (zh .i64)) (zz (zd (zh .i64)) zce))))))
abbrev zkf:Rep zkF:=(zz (zS zI) (zz (zd z5) (zz zs5 (zz zs5 (zz zs5 (zz (zd (zh .i64)) zce))))))
abbrev zo:Rep zb:=(zz (zh .i64) (zz (zh .i64) zce))
abbrev zw:Rep zX:=(zz (zh .i64) (zz (zh .i64) (zz (zh .i64) (zz (zh .i64) (zz (zh .i64) (zz (zh .i64) zce))))))
abbrev zaN:Rep za2:=(zz zo (zz zw (zz (zh .i64) (zz (zh .i64) zce))))
abbrev zgn:Rep Leg:=(zz (zh .i64) (zz (zh .i64) (zz zw (zz (zh .i64) (zz (zh .i64) zce)))))
theorem zta:FOk zgn 0 (zh .i64) (λx=>x.1) (λx y=>(y,x.2.1,x.2.2.1,x.2.2.2.1,x.2.2.2.2.1,())):=FOk.off FOk.here rfl
abbrev zp:Rep zO:=(zz ze3 (zz (zjn 2 (zd (zh .i64))) (zz (zjn 2 (zd (zh .i64))) zce)))
abbrev zhJ:Rep Trip:=(zz (zh .i64) (zz zu (zz (zh .i64) (zz (zh .i64) zce))))
abbrev zag:Rep z6:=(zz zbJ (zz (zd z5) (zz zbG (zz (zh .i64) (zz (zh .i64) zce)))))
abbrev zg1:Rep Cover:=(zz (zh .i64) (zz (zh .i64) (zz (zh .i64) zce)))
theorem zpP:FOk zg1 0 (zh .i64) (λx=>x.1) (λx y=>(y,x.2.1,x.2.2.1,())):=FOk.off FOk.here rfl
theorem zbu {x:zX}:Cells zw x [.val (zh .i64) x.1,.val (zh .i64) x.2.1,.val (zh .i64) x.2.2.1,.val (zh .i64) x.2.2.2.1,.val (zh .i64) x.2.2.2.2.1,.val (zh .i64) x.2.2.2.2.2.1]:=(zq (zB rfl) (zq (zB rfl) (zq (zB rfl) (zq (zB rfl) (zq (zB rfl) (zq (zB rfl) zb0 rfl) rfl) rfl) rfl) rfl) rfl)
theorem zhv {x:zb}:Cells zo x [.val (zh .i64) x.1,.val (zh .i64) x.2.1]:=(zq (zB rfl) (zq (zB rfl) zb0 rfl) rfl)
def zdx:List Int:=[0,1,2,2,3,3,3,3,4,4,4,4,4,4,4,4,5,5,5,5,5,5,5,5,5,5,5,5,5,5,5,5,6,6,6,6,6,6,6,6,6,6,6,6,6,6,6,6,6,6,6,6,6,6,6,6,6,6,6,6,6,6,6,6,7,7,7,7,7,7,7,7,7,7,7,7,7,7,7,7,7,7,7,7,7,7,7,7,7,7,7,7,7,7,7,7,7,7,7,7,7,7,7,7,7,7,7,7,7,7,7,7,7,7,7,7,7,7,7,7,7,7,7,7,7,7,7,7,8,8,8,8,8,8,8,8,8,8,8,8,8,8,8,8,8,8,8,8,8,8,8,8,8,8,8,8,8,8,8,8,8,8,8,8,8,8,8,8,8,8,8,8,8,8,8,8,8,8,8,8,8,8,8,8,8,8,8,8,8,8,8,8,8,8,8,8,8,8,8,8,8,8,8,8,8,8,8,8,8,8,8,8,8,8,8,8,8,8,8,8,8,8,8,8,8,8,8,8,8,8,8,8,8,8,8,8,8,8,8,8,8,8,8,8,8,8,8,8,8,8,8,8,8,8,8,8]
def zeb (p_0:Plan) (s_1:Service):Option (Bool):=
Zb (cond (decide ((zl p_0.2.1)<=8)) (cond (decide ((zl p_0.1)<=10)) (cond (decide ((zl s_1.1)<=2)) (cond (decide ((zl s_1.2.1)<=3)) (some (decide ((zl s_1.2.2.1)<=3))) (some false)) (some false)) (some false)) (some false)) λc5=>
some c5
def zaI (n_0:Int) (low_1:Int) (high_2:Int):Option (Bool):=
Zb (cond (decide (n_0>=low_1)) (some (decide (n_0<=high_2))) (some false)) λc2=>
some c2
def zbf (s_0:(List Int)) (f_1:((Int)->Option (Bool))):Option (Int):=
Zb (iter (σ:=Int) (τ:=Unit⊕(Int)) (λs5=>
cond (decide (s5<(zl s_0))) (Zb (idx s_0 s5) λx8=>
Zb (f_1 x8) λy9=>
cond y9 (some (.inr (.inr s5))) (some (.inl (w64 (s5+1))))) (some (.inr (.inl ())))) big 0) λta=>
alt (λbb=>some (-1)) (λba=>some ba) ta
def zad (s_0:(List Int)) (f_1:((Int)->Option (Bool))):Option (Bool):=
Zb (zbf s_0 f_1) λy1=>
some (decide (y1>=0))
def zhw (d_0:Int):Option (Bool):=
Zb (zaI d_0 (-1) 20000) λy1=>
some (!y1)
def zfS (tasks_0:(List Task)) (y_1:Yard):Option (Int):=
Zb (cond (decide ((zl tasks_0)>60)) (some true) (Zb (zaI (zl y_1.2.2.1) 1 40) λy8=>
cond (!y8) (some true) (cond ((zl y_1.1)!=(zl y_1.2.2.1)) (some true) (Zb (zaI y_1.2.1 0 3600) λya=>
some (!ya))))) λc6=>
cond c6 (some 2) (Zb (iter (σ:=Int) (τ:=Unit⊕(Int)) (λsb=>
cond (decide (sb<(zl y_1.1))) (Zb (idx y_1.1 sb) λxb=>
cond ((zl xb)!=(zl y_1.2.2.1)) (some (.inr (.inr 2))) (Zb (idx xb sb) λxd=>
cond (xd !=0) (some (.inr (.inr 2))) (Zb (zad xb (λx=>zhw x)) λyb=>
cond yb (some (.inr (.inr 2))) (some (.inl (w64 (sb+1))))))) (some (.inr (.inl ())))) big 0) λta=>
alt (λbc=>Zb (iter (σ:=Int) (τ:=Unit⊕(Int)) (λsa=>
cond (decide (sa<(zl tasks_0))) (Zb (idx tasks_0 sa) λxa=>
Zb (zaI xa.1 0 (w64 ((zl y_1.2.2.1)-1))) λyc=>
cond (!yc) (some (.inr (.inr 2))) (Zb (zaI xa.2.1 0 (w64 ((zl y_1.2.2.1)-1))) λyd=>
cond (!yd) (some (.inr (.inr 2))) (Zb (zaI xa.2.2.1 0 xa.2.2.2.1) λye=>
cond (!ye) (some (.inr (.inr 2))) (cond (decide (xa.2.2.2.1>200000)) (some (.inr (.inr 2))) (cond (decide (sa>0)) (Zb (idx tasks_0 (w64 (sa-1))) λxe=>
cond (decide (xa.2.2.1<xe.2.2.1)) (some (.inr (.inr 2))) (some (.inl (w64 (sa+1))))) (some (.inl (w64 (sa+1))))))))) (some (.inr (.inl ())))) big 0) λtb=>
alt (λbd=>some 0) (λba=>some ba) tb) (λbb=>some bb) ta)
def zaY (w_0:zaz) (a_1:Int) (b_2:Int):Option (Bool):=
Zb (idx w_0.1 a_1) λx5=>
Zb (idx w_0.1 b_2) λx6=>
Zb (idx w_0.2.1.1 x5.2.1) λxb=>
Zb (idx xb x6.1) λxa=>
Zb (cond (decide (a_1<b_2)) (cond (decide (xa>=0)) (some (decide ((w64 ((w64 (x5.2.2.2.1+w_0.2.1.2.1))+xa))<=x6.2.2.1))) (some false)) (some false)) λca=>
some ca
def zbY   (rec:Int->Int->(List Bool)->(List Bool)->zaz->(List Int)->Option ((Bool)×(List Bool)×(List Int))) (a_0:Int) (p_1:Int) (p_2:(List Bool)) (p_3:(List Bool)) (p_4:zaz) (p_5:(List Int)):Option ((Bool)×(List Bool)×(List Int)):=
Zb (iter (σ:=(Int×(List Bool)×(List Int))) (τ:=((List Bool)×(List Int))⊕(Bool×(List Bool)×(List Int))) (λsa=>
cond (decide (sa.1<p_1)) (Zb (idx p_2 sa.1) λxa=>
cond xa (some (.inl ((w64 (sa.1+1)),sa.2.1,sa.2.2))) (Zb (idx sa.2.1 sa.1) λxb=>
cond xb (some (.inl ((w64 (sa.1+1)),sa.2.1,sa.2.2))) (Zb (zaY p_4 a_0 sa.1) λyb=>
cond (!yb) (some (.inl ((w64 (sa.1+1)),sa.2.1,sa.2.2))) (Zb (idx sa.2.1 sa.1) λxf=>
Zb (idx sa.2.2 sa.1) λxd=>
cond (decide (xd<0)) (Zb (idx sa.2.2 sa.1) λxg=>
some (.inr (.inr (true,(sa.2.1).set (Int.toNat sa.1) true,(sa.2.2).set (Int.toNat sa.1) a_0)))) (Zb (idx sa.2.2 sa.1) λxe=>
Zb (rec xe p_1 p_2 ((sa.2.1).set (Int.toNat sa.1) true) p_4 sa.2.2) λya=>
cond ya.1 (Zb (idx ya.2.2 sa.1) λxh=>
some (.inr (.inr (true,ya.2.1,(ya.2.2).set (Int.toNat sa.1) a_0)))) (some (.inl ((w64 (sa.1+1)),ya.2.1,ya.2.2)))))))) (some (.inr (.inl (sa.2.1,sa.2.2))))) big ((w64 (a_0+1)),p_3,p_5)) λta=>
alt (λbb=>some (false,bb.1,bb.2)) (λba=>some (ba.1,ba.2.1,ba.2.2)) ta
def zda  :Nat->Int->Int->(List Bool)->(List Bool)->zaz->(List Int)->Option ((Bool)×(List Bool)×(List Int))
 | 0=>λ_ _ _ _ _ _=>none
 | k+1=>zbY (zda k)
def zcN (w_0:zaz) (fixed_1:(List Int)):Option (Int):=
Zb (mkO 8 (zl w_0.1) (0:Int)) λx2=>
Zb (iter (σ:=(Int×(List Int))) (τ:=(List Int)) (λs9=>
cond (decide (s9.1<(zl x2))) (Zb (idx s9.2 s9.1) λxe=>
some (.inl ((w64 (s9.1+1)),(s9.2).set (Int.toNat s9.1) (-1)))) (some (.inr s9.2))) big (0,x2)) λtb=>
Zb (mkO 1 (zl w_0.1) (false:Bool)) λxb=>
Zb (iter (σ:=(Int×Int×(List Bool))) (τ:=(Int×(List Bool))) (λsa=>
cond (decide (sa.2.1<(zl fixed_1))) (Zb (idx fixed_1 sa.2.1) λxa=>
cond (decide (xa<(zl w_0.1))) (Zb (idx sa.2.2 xa) λxf=>
some (.inl ((w64 (sa.1+1)),(w64 (sa.2.1+1)),(sa.2.2).set (Int.toNat xa) true))) (some (.inl (sa.1,(w64 (sa.2.1+1)),sa.2.2)))) (some (.inr (sa.1,sa.2.2)))) big (0,0,xb)) λta=>
Zb (iter (σ:=(Int×Int×(List Bool)×(List Int))) (τ:=(Int×(List Bool)×(List Int))) (λsb=>
cond (decide (sb.2.1<(zl w_0.1))) (Zb (mkO 1 (zl w_0.1) (false:Bool)) λxd=>
Zb (zda big sb.2.1 (zl w_0.1) ta.2 xd w_0 sb.2.2.2) λya=>
cond ya.1 (some (.inl ((w64 (sb.1+1)),(w64 (sb.2.1+1)),ya.2.1,ya.2.2))) (some (.inl (sb.1,(w64 (sb.2.1+1)),ya.2.1,ya.2.2)))) (some (.inr (sb.1,sb.2.2.1,sb.2.2.2)))) big (ta.1,(zl fixed_1),[],tb)) λtc=>
some tc.1
def zcV (s_0:(List Int)) (v_1:Int):Option (Int):=
Zb (iter (σ:=Int) (τ:=Unit⊕(Int)) (λs4=>
cond (decide (s4<(zl s_0))) (Zb (idx s_0 s4) λx7=>
cond (v_1==x7) (some (.inr (.inr s4))) (some (.inl (w64 (s4+1))))) (some (.inr (.inl ())))) big 0) λt9=>
alt (λbb=>some (-1)) (λba=>some ba) t9
def zdB (s_0:(List Int)) (v_1:Int):Option (Bool):=
Zb (zcV s_0 v_1) λy1=>
some (decide (y1>=0))
def zcW (s_0:(List Int)):Option (List Int):=zcL 8 [] s_0
def zdb (w_0:zaz):Option (List Int):=
Zb (zcN w_0 ([])) λy1=>
Zb (iter (σ:=((List Int)×Int)) (τ:=(List Int)) (λsb=>
cond (decide (sb.2<(zl w_0.1))) (Zb (iter (σ:=((List Int)×Int)) (τ:=((List Int)×Int×Bool×Bool×zaz×Int×(List Int)×(List Int)×Int×Int×Bool)⊕(List Int)) (λsa=>
cond (decide (sa.2<(zl w_0.1))) (Zb (zaY w_0 sb.2 sa.2) λyc=>
cond yc (Zb (zdB sa.1 sa.2) λya=>
cond (!ya) (Zb (zcW sa.1) λyd=>
Zb (zcL 8 yd ([sa.2])) λxa=>
Zb (zcN w_0 xa) λyb=>
cond (yb==y1) (Zb (zcL 8 sa.1 ([sa.2])) λxb=>
some (.inr (.inl (xb,sa.2,ya,(!ya),w_0,sa.2,[sa.2],xa,yb,y1,(yb==y1))))) (some (.inl (sa.1,(w64 (sa.2+1)))))) (some (.inl (sa.1,(w64 (sa.2+1)))))) (some (.inl (sa.1,(w64 (sa.2+1)))))) (some (.inr (.inr sa.1)))) big (sb.1,(w64 (sb.2+1)))) λta=>
alt (λba=>some (.inl (ba.1,(w64 (sb.2+1))))) (λbb=>Zb (zcL 8 bb ([(zl w_0.1)])) λxd=>
some (.inl (xd,(w64 (sb.2+1))))) ta) (some (.inr sb.1))) big ([],0)) λtb=>
some tb
def zec   (rec:Int->(List Bool)->Int->zaz->(List Bool)->(List Int)->Option ((List Bool)×(List Bool))) (a_0:Int) (p_1:(List Bool)) (p_2:Int) (p_3:zaz) (p_4:(List Bool)) (p_5:(List Int)):Option ((List Bool)×(List Bool)):=
Zb (idx p_1 a_0) λx1=>
cond x1 (some (p_1,p_4)) (Zb (idx p_1 a_0) λx3=>
Zb (iter (σ:=(Int×(List Bool)×(List Bool))) (τ:=((List Bool)×(List Bool))) (λsa=>
cond (decide (sa.1<p_2)) (Zb (zaY p_3 a_0 sa.1) λyb=>
cond yb (Zb (idx sa.2.2 sa.1) λxa=>
cond (!xa) (Zb (idx sa.2.2 sa.1) λxe=>
Zb (idx p_5 sa.1) λxb=>
cond (decide (xb>=0)) (Zb (idx p_5 sa.1) λxd=>
Zb (rec xd sa.2.1 p_2 p_3 ((sa.2.2).set (Int.toNat sa.1) true) p_5) λya=>
some (.inl ((w64 (sa.1+1)),ya.1,ya.2))) (some (.inl ((w64 (sa.1+1)),sa.2.1,(sa.2.2).set (Int.toNat sa.1) true)))) (some (.inl ((w64 (sa.1+1)),sa.2.1,sa.2.2)))) (some (.inl ((w64 (sa.1+1)),sa.2.1,sa.2.2)))) (some (.inr (sa.2.1,sa.2.2)))) big (0,(p_1).set (Int.toNat a_0) true,p_4)) λta=>
some (ta.1,ta.2))
def zgA  :Nat->Int->(List Bool)->Int->zaz->(List Bool)->(List Int)->Option ((List Bool)×(List Bool))
 | 0=>λ_ _ _ _ _ _=>none
 | k+1=>zec (zgA k)
def zhK (tasks_0:(List Task)) (y_1:Yard):Option ((List (List Int))×zke×Int):=
Zb (zfS tasks_0 y_1) λy2=>
cond (y2 !=0) (some ([],(([],[],()):zke),2)) (Zb (zdb ((tasks_0,y_1,()):zaz)) λy6=>
Zb (mkO 8 (zl tasks_0) (0:Int)) λx8=>
Zb (iter (σ:=(Int×(List Int))) (τ:=(List Int)) (λse=>
cond (decide (se.1<(zl x8))) (Zb (idx se.2 se.1) λxp=>
some (.inl ((w64 (se.1+1)),(se.2).set (Int.toNat se.1) (-1)))) (some (.inr se.2))) big (0,x8)) λtd=>
Zb (iter (σ:=(Int×(List Int))) (τ:=(List Int)) (λsc=>
cond (decide (sc.1<(zl y6))) (Zb (idx y6 sc.1) λxa=>
cond (decide (xa<(zl tasks_0))) (Zb (idx sc.2 xa) λxq=>
some (.inl ((w64 (sc.1+1)),(sc.2).set (Int.toNat xa) sc.1))) (some (.inl ((w64 (sc.1+1)),sc.2)))) (some (.inr sc.2))) big (0,td)) λtb=>
Zb (iter (σ:=((List (List Int))×Int)) (τ:=(List (List Int))) (λsd=>
cond (decide (sd.2<(zl tasks_0))) (Zb (idx tb sd.2) λxd=>
cond (decide (xd>=0)) (some (.inl (sd.1,(w64 (sd.2+1))))) (Zb (iter (σ:=((List Int)×Int)) (τ:=(List Int)) (λsf=>
cond (decide (sf.2<(zl tasks_0))) (Zb (zcL 8 sf.1 ([sf.2])) λxe=>
Zb (idx y6 sf.2) λxf=>
some (.inl (xe,xf))) (some (.inr sf.1))) big ([],sd.2)) λte=>
Zb (zcL 24 sd.1 ([te])) λxg=>
some (.inl (xg,(w64 (sd.2+1)))))) (some (.inr sd.1))) big ([],0)) λtf=>
Zb (mkO 1 (zl tasks_0) (false:Bool)) λxh=>
Zb (mkO 1 (zl tasks_0) (false:Bool)) λxi=>
Zb (iter (σ:=(Int×(List Bool)×(List Bool))) (τ:=((List Bool)×(List Bool))) (λsb=>
cond (decide (sb.1<(zl tasks_0))) (Zb (idx y6 sb.1) λxj=>
cond (xj==(zl tasks_0)) (Zb (zgA big sb.1 sb.2.2 (zl tasks_0) ((tasks_0,y_1,()):zaz) sb.2.1 tb) λya=>
some (.inl ((w64 (sb.1+1)),ya.2,ya.1))) (some (.inl ((w64 (sb.1+1)),sb.2.1,sb.2.2)))) (some (.inr (sb.2.1,sb.2.2)))) big (0,xi,xh)) λta=>
Zb (iter (σ:=(Int×(List Int)×(List Int))) (τ:=((List Int)×(List Int))) (λsa=>
cond (decide (sa.1<(zl tasks_0))) (Zb (idx ta.2 sa.1) λxk=>
cond (!xk) (Zb (zcL 8 sa.2.2 ([sa.1])) λxb=>
Zb (idx ta.1 sa.1) λxl=>
cond xl (Zb (zcL 8 sa.2.1 ([sa.1])) λxm=>
some (.inl ((w64 (sa.1+1)),xm,xb))) (some (.inl ((w64 (sa.1+1)),sa.2.1,xb)))) (Zb (idx ta.1 sa.1) λxn=>
cond xn (Zb (zcL 8 sa.2.1 ([sa.1])) λxo=>
some (.inl ((w64 (sa.1+1)),xo,sa.2.2))) (some (.inl ((w64 (sa.1+1)),sa.2.1,sa.2.2))))) (some (.inr (sa.2.2,sa.2.1)))) big (0,[],[])) λtc=>
some (tf,(tc.1,tc.2,()),0))
def zfz :Option ((List Task)×Yard×zeN):=
some ([((0,1,0,50,()):Task),((0,1,20,80,()):Task),((1,0,60,120,()):Task),((1,0,100,150,()):Task),((0,1,260,300,()):Task)],(([[0,100],[100,0]],10,[true,false],()):Yard),((200,400,300,60,10,10,()):zeN))
def zdO (w_0:zaz) (cars_1:(List (List Int))):Option (Bool):=
Zb (mkO 1 (zl w_0.1) (false:Bool)) λx1=>
Zb (iter (σ:=(Int×Int×(List Bool))) (τ:=(Int×(List Bool))⊕(Bool)) (λsc=>
cond (decide (sc.2.1<(zl cars_1))) (Zb (idx cars_1 sc.2.1) λxa=>
cond ((zl xa)==0) (some (.inr (.inr false))) (cond (decide (sc.2.1>0)) (Zb (idx xa 0) λxe=>
Zb (idx cars_1 (w64 (sc.2.1-1))) λxf=>
Zb (idx xf 0) λxg=>
cond (decide (xe<=xg)) (some (.inr (.inr false))) (Zb (iter (σ:=(Int×Int×(List Bool))) (τ:=(Int×(List Bool))⊕(Bool×(List Bool))) (λsa=>
cond (decide (sa.2.1<(zl xa))) (Zb (idx xa sa.2.1) λxb=>
Zb (zaI xb 0 (w64 ((zl w_0.1)-1))) λya=>
cond (!ya) (some (.inr (.inr (false,sa.2.2)))) (Zb (idx sa.2.2 xb) λxh=>
cond xh (some (.inr (.inr (false,sa.2.2)))) (cond (decide (sa.2.1>0)) (Zb (idx xa (w64 (sa.2.1-1))) λxi=>
Zb (zaY w_0 xi xb) λyb=>
cond (!yb) (some (.inr (.inr (false,sa.2.2)))) (Zb (idx sa.2.2 xb) λxl=>
some (.inl ((w64 (sa.1+1)),(w64 (sa.2.1+1)),(sa.2.2).set (Int.toNat xb) true)))) (Zb (idx sa.2.2 xb) λxm=>
some (.inl ((w64 (sa.1+1)),(w64 (sa.2.1+1)),(sa.2.2).set (Int.toNat xb) true)))))) (some (.inr (.inl (sa.1,sa.2.2))))) big (sc.1,0,sc.2.2)) λta=>
alt (λba=>some (.inl (ba.1,(w64 (sc.2.1+1)),ba.2))) (λbc=>some (.inr (.inr bc.1))) ta)) (Zb (iter (σ:=(Int×Int×(List Bool))) (τ:=(Int×(List Bool))⊕(Bool×(List Bool))) (λsb=>
cond (decide (sb.2.1<(zl xa))) (Zb (idx xa sb.2.1) λxd=>
Zb (zaI xd 0 (w64 ((zl w_0.1)-1))) λyc=>
cond (!yc) (some (.inr (.inr (false,sb.2.2)))) (Zb (idx sb.2.2 xd) λxj=>
cond xj (some (.inr (.inr (false,sb.2.2)))) (cond (decide (sb.2.1>0)) (Zb (idx xa (w64 (sb.2.1-1))) λxk=>
Zb (zaY w_0 xk xd) λyd=>
cond (!yd) (some (.inr (.inr (false,sb.2.2)))) (Zb (idx sb.2.2 xd) λxn=>
some (.inl ((w64 (sb.1+1)),(w64 (sb.2.1+1)),(sb.2.2).set (Int.toNat xd) true)))) (Zb (idx sb.2.2 xd) λxo=>
some (.inl ((w64 (sb.1+1)),(w64 (sb.2.1+1)),(sb.2.2).set (Int.toNat xd) true)))))) (some (.inr (.inl (sb.1,sb.2.2))))) big (sc.1,0,sc.2.2)) λtb=>
alt (λbb=>some (.inl (bb.1,(w64 (sc.2.1+1)),bb.2))) (λbd=>some (.inr (.inr bd.1))) tb))) (some (.inr (.inl (sc.1,sc.2.2))))) big (0,0,x1)) λtc=>
alt (λbe=>some (be.1==(zl w_0.1))) (λbf=>some bf) tc
def zg2 (x_0:Int):Option (Bool):=
Zb (zaI x_0 0 200000) λy1=>
some (!y1)
def zfd (tasks_0:(List Task)) (y_1:Yard) (cars_2:(List (List Int))) (r_3:zeN):Option ((Option zaM)×Bool):=
Zb (zfS tasks_0 y_1) λy1=>
cond (y1 !=0) (some ((none:Option zaM),false)) (Zb (Zb (zdO ((tasks_0,y_1,()):zaz) cars_2) λy7=>
cond (!y7) (some true) (Zb (zad ([r_3.1,r_3.2.1,r_3.2.2.1,r_3.2.2.2.1,r_3.2.2.2.2.1,r_3.2.2.2.2.2.1]) (λx=>zg2 x)) λy9=>
some y9)) λc6=>
cond c6 (some ((none:Option zaM),false)) (some ((some ((((tasks_0,y_1,()):zaz),cars_2,r_3,()):zaM)),true)))
def zc1 (c_0:zaM):Option (List zT):=
Zb (iter (σ:=((List zT)×Int)) (τ:=(List zT)) (λsa=>
cond (decide (sa.2<(zl c_0.2.1))) (Zb (idx c_0.2.1 sa.2) λxa=>
Zb (iter (σ:=((List zT)×Int)) (τ:=(List zT)) (λsb=>
cond (decide (sb.2<(zl xa))) (Zb (iter (σ:=((List zT)×Int)) (τ:=(List zT)) (λsc=>
cond (decide (sc.2<(zl xa))) (Zb (zcL 24 sc.1 ([((sa.2,sb.2,sc.2,()):zT)])) λxb=>
some (.inl (xb,(w64 (sc.2+1))))) (some (.inr sc.1))) big (sb.1,sb.2)) λta=>
some (.inl (ta,(w64 (sb.2+1))))) (some (.inr sb.1))) big (sa.1,0)) λtb=>
some (.inl (tb,(w64 (sa.2+1))))) (some (.inr sa.1))) big ([],0)) λtc=>
some tc
def zH (p_0:zT) (p_1:zaM):Option (Int):=
Zb (idx p_1.2.1 p_0.1) λx3=>
Zb (slO x3 p_0.2.1 (w64 (p_0.2.2.1+1))) λx4=>
Zb (iter (σ:=(Int×Int)) (τ:=Int) (λs8=>
cond (decide (s8.2<(zl x4))) (Zb (idx x4 s8.2) λxa=>
Zb (zwB .u64 1 xa) λxb=>
some (.inl ((bOr .u64 s8.1 xb),(w64 (s8.2+1))))) (some (.inr s8.1))) big (0,0)) λta=>
some ta
def zal (s_0:(List zT)) (f_1:((zT)->Option (Bool))):Option (Int):=
Zb (iter (σ:=Int) (τ:=Unit⊕(Int)) (λs5=>
cond (decide (s5<(zl s_0))) (Zb (idx s_0 s5) λx8=>
Zb (f_1 x8) λy9=>
cond y9 (some (.inr (.inr s5))) (some (.inl (w64 (s5+1))))) (some (.inr (.inl ())))) big 0) λta=>
alt (λbb=>some (-1)) (λba=>some ba) ta
def zac (s_0:(List zT)) (f_1:((zT)->Option (Bool))):Option (Bool):=
Zb (zal s_0 f_1) λy1=>
some (decide (y1>=0))
def zb1 (c_0:zaM) (p_1:zT):Option (Task):=
Zb (idx c_0.2.1 p_1.1) λx5=>
Zb (idx x5 p_1.2.2.1) λx6=>
Zb (idx c_0.1.1 x6) λx7=>
some x7
def zcu (c_0:zaM) (p_1:zT):Option (Task):=
Zb (idx c_0.2.1 p_1.1) λx5=>
Zb (idx x5 p_1.2.1) λx6=>
Zb (idx c_0.1.1 x6) λx7=>
some x7
def zey (c_0:zaM) (p_1:zT):Option (Int):=
Zb (zb1 c_0 p_1) λy3=>
Zb (zcu c_0 p_1) λy4=>
some (w64 (y3.2.2.2.1-y4.2.2.1))
def zdP (p_0:zT) (p_1:zaM):Option (Bool):=
Zb (zey p_1 p_0) λy2=>
some (decide (y2>p_1.2.2.1.1))
def zdp (c_0:zaM) (d_1:Duty):Option (Bool):=
Zb (zac d_1.1 (λx=>zdP x c_0)) λy1=>
some y1
def zco (p_0:zT) (p_1:zaM):Option (Bool):=
Zb (cond (decide (p_0.2.1>0)) (Zb (zcu p_1 p_0) λya=>
Zb (idx p_1.1.2.1.2.2.1 ya.1) λxa=>
cond (!xa) (some true) (Zb (idx p_1.2.1 p_0.1) λxb=>
cond (decide (p_0.2.2.1<(w64 ((zl xb)-1)))) (Zb (zb1 p_1 p_0) λyb=>
Zb (idx p_1.1.2.1.2.2.1 yb.2.1) λxd=>
some (!xd)) (some false))) (Zb (idx p_1.2.1 p_0.1) λxe=>
cond (decide (p_0.2.2.1<(w64 ((zl xe)-1)))) (Zb (zb1 p_1 p_0) λyc=>
Zb (idx p_1.1.2.1.2.2.1 yc.2.1) λxf=>
some (!xf)) (some false))) λca=>
some ca
def zc2 (c_0:zaM) (d_1:Duty):Option (Bool):=
Zb (zac d_1.1 (λx=>zco x c_0)) λy1=>
some y1
def zcO (c_0:zaM) (d_1:Duty):Option (Int×Int):=
Zb (idx d_1.1 0) λx7=>
Zb (zb1 c_0 x7) λy8=>
Zb (idx d_1.1 1) λx9=>
Zb (zcu c_0 x9) λya=>
Zb (idx c_0.1.2.1.1 y8.2.1) λxa=>
Zb (idx xa ya.1) λxb=>
some ((w64 (ya.2.2.1-y8.2.2.2.1)),xb)
def zcv (c_0:zaM) (d_1:Duty):Option (Bool):=
cond ((zl d_1.1)==1) (some false) (Zb (zcO c_0 d_1) λy2=>
Zb (cond (decide (y2.1<0)) (some true) (some (decide (y2.2<0)))) λc4=>
some c4)
def zdq (c_0:zaM) (d_1:Duty):Option (Bool):=
Zb (cond ((zl d_1.1)==1) (some true) (Zb (zcv c_0 d_1) λy5=>
some y5)) λc3=>
cond c3 (some false) (Zb (zcO c_0 d_1) λy7=>
some (decide (y7.1<(w64 (c_0.2.2.1.2.2.2.1+y7.2)))))
def ze4 (c_0:zaM) (d_1:Duty):Option (Int):=
Zb (idx d_1.1 (w64 ((zl d_1.1)-1))) λx5=>
Zb (zb1 c_0 x5) λy6=>
Zb (idx d_1.1 0) λx7=>
Zb (zcu c_0 x7) λy8=>
some (w64 (y6.2.2.2.1-y8.2.2.1))
def ze5 (c_0:zaM) (d_1:Duty):Option (Bool):=
Zb (ze4 c_0 d_1) λy2=>
some (decide ((w64 ((w64 (y2+c_0.2.2.1.2.2.2.2.1))+c_0.2.2.1.2.2.2.2.2.1))>c_0.2.2.1.2.1))
def zdK (c_0:zaM) (d_1:Duty):Option (Bool):=
Zb (iter (σ:=(Int×Int)) (τ:=Int) (λs5=>
cond (decide (s5.2<(zl d_1.1))) (Zb (idx d_1.1 s5.2) λx8=>
Zb (zey c_0 x8) λya=>
some (.inl ((w64 (s5.1+ya)),(w64 (s5.2+1))))) (some (.inr s5.1))) big ((w64 (c_0.2.2.1.2.2.2.2.1+c_0.2.2.1.2.2.2.2.2.1)),0)) λta=>
some (decide (ta>c_0.2.2.1.2.2.1))
def zc3 (c_0:zaM) (d_1:Duty):Option (List Int):=
Zb (iter (σ:=((List Int)×Int)) (τ:=(List Int)) (λs8=>
cond (decide (s8.2<6)) (Zb (idx ([(λx=>zdp c_0 x),(λx=>zc2 c_0 x),(λx=>zcv c_0 x),(λx=>zdq c_0 x),(λx=>ze5 c_0 x),(λx=>zdK c_0 x)]:(List ((Duty)->Option Bool))) s8.2) λxa=>
Zb (xa d_1) λya=>
cond ya (Zb (zcL 8 s8.1 ([(w64 (1+s8.2))])) λxb=>
some (.inl (xb,(w64 (s8.2+1))))) (some (.inl (s8.1,(w64 (s8.2+1)))))) (some (.inr s8.1))) big ([],0)) λta=>
some ta
def zb6   (s_0:Int) (l_1:(List zT)) (p_2:zaM) (p_3:(List zf)):Option (List zf):=
Zb (zc3 p_2 ((l_1,()):Duty)) λy2=>
cond ((zl y2)==0) (Zb (ze4 p_2 ((l_1,()):Duty)) λy8=>
Zb (zcL 40 p_3 ([((((l_1,()):Duty),s_0,y8,()):zf)])) λx9=>
some x9) (some p_3)
def z7   (data_0:(List zf)) (a_1:Int) (b_2:Int) (cmp_3:((zf×zf)->Option (Int))):Option (List zf):=
Zb (iter (σ:=(Int×(List zf))) (τ:=(List zf)) (λsb=>
cond (decide (sb.1<b_2)) (Zb (iter (σ:=(Int×(List zf))) (τ:=(List zf)) (λsa=>
cond (decide (sa.1>a_1)) (Zb (idx sa.2 sa.1) λxb=>
Zb (idx sa.2 (w64 (sa.1-1))) λxd=>
Zb (cmp_3 (xb,xd)) λya=>
cond (decide (ya<0)) (Zb (idx sa.2 (w64 (sa.1-1))) λxa=>
Zb (idx sa.2 sa.1) λxe=>
Zb (idx sa.2 sa.1) λxf=>
Zb (idx ((sa.2).set (Int.toNat sa.1) xa) (w64 (sa.1-1))) λxg=>
some (.inl ((w64 (sa.1-1)),((sa.2).set (Int.toNat sa.1) xa).set (Int.toNat (w64 (sa.1-1))) xe))) (some (.inr sa.2))) (some (.inr sa.2))) big (sb.1,sb.2)) λta=>
some (.inl ((w64 (sb.1+1)),ta))) (some (.inr sb.2))) big ((w64 (a_1+1)),data_0)) λtb=>
some tb
def z4   (data_0:(List zf)) (a_1:Int) (b_2:Int) (n_3:Int) (cmp_4:((zf×zf)->Option (Int))):Option (List zf):=
Zb (iter (σ:=(Int×(List zf))) (τ:=(List zf)) (λsa=>
cond (decide (sa.1<n_3)) (Zb (idx sa.2 (w64 (b_2+sa.1))) λxa=>
Zb (idx sa.2 (w64 (a_1+sa.1))) λxb=>
Zb (idx sa.2 (w64 (a_1+sa.1))) λxd=>
Zb (idx ((sa.2).set (Int.toNat (w64 (a_1+sa.1))) xa) (w64 (b_2+sa.1))) λxe=>
some (.inl ((w64 (sa.1+1)),((sa.2).set (Int.toNat (w64 (a_1+sa.1))) xa).set (Int.toNat (w64 (b_2+sa.1))) xb))) (some (.inr sa.2))) big (0,data_0)) λta=>
some ta
def zaB   (data_0:(List zf)) (a_1:Int) (m_2:Int) (b_3:Int) (cmp_4:((zf×zf)->Option (Int))):Option (List zf):=
Zb (iter (σ:=(Int×Int×(List zf))) (τ:=(Int×(List zf))) (λsa=>
cond (sa.1 !=sa.2.1) (cond (decide (sa.1>sa.2.1)) (Zb (z4 sa.2.2 (w64 (m_2-sa.1)) m_2 sa.2.1 cmp_4) λya=>
some (.inl ((w64 (sa.1-sa.2.1)),sa.2.1,ya))) (Zb (z4 sa.2.2 (w64 (m_2-sa.1)) (w64 ((w64 (m_2+sa.2.1))-sa.1)) sa.1 cmp_4) λyb=>
some (.inl (sa.1,(w64 (sa.2.1-sa.1)),yb)))) (some (.inr (sa.1,sa.2.2)))) big ((w64 (m_2-a_1)),(w64 (b_3-m_2)),data_0)) λta=>
Zb (z4 ta.2 (w64 (m_2-ta.1)) m_2 ta.1 cmp_4) λyc=>
some yc
def zaG   (rec:(List zf)->Int->Int->Int->((zf×zf)->Option (Int))->Option (List zf)) (data_0:(List zf)) (a_1:Int) (m_2:Int) (b_3:Int) (cmp_4:((zf×zf)->Option (Int))):Option (List zf):=
cond ((w64 (m_2-a_1))==1) (Zb (iter (σ:=(Int×Int)) (τ:=Int) (λsc=>
cond (decide (sc.1<sc.2)) (Zb (zlb .u64 (IntKind.u64.wrap (w64 (sc.1+sc.2))) 1) λxe=>
Zb (idx data_0 (w64 xe)) λxi=>
Zb (idx data_0 a_1) λxj=>
Zb (cmp_4 (xi,xj)) λyg=>
cond (decide (yg<0)) (some (.inl ((w64 ((w64 xe)+1)),sc.2))) (some (.inl (sc.1,(w64 xe))))) (some (.inr sc.1))) big (m_2,b_3)) λtc=>
Zb (iter (σ:=(Int×(List zf))) (τ:=(List zf)) (λsa=>
cond (decide (sa.1<(w64 (tc-1)))) (Zb (idx sa.2 (w64 (sa.1+1))) λxg=>
Zb (idx sa.2 sa.1) λxk=>
Zb (idx sa.2 sa.1) λxt=>
Zb (idx ((sa.2).set (Int.toNat sa.1) xg) (w64 (sa.1+1))) λxu=>
some (.inl ((w64 (sa.1+1)),((sa.2).set (Int.toNat sa.1) xg).set (Int.toNat (w64 (sa.1+1))) xk))) (some (.inr sa.2))) big (a_1,data_0)) λtd=>
some td) (cond ((w64 (b_3-m_2))==1) (Zb (iter (σ:=(Int×Int)) (τ:=Int) (λsd=>
cond (decide (sd.1<sd.2)) (Zb (zlb .u64 (IntKind.u64.wrap (w64 (sd.1+sd.2))) 1) λxf=>
Zb (idx data_0 m_2) λxl=>
Zb (idx data_0 (w64 xf)) λxm=>
Zb (cmp_4 (xl,xm)) λyh=>
cond (!(decide (yh<0))) (some (.inl ((w64 ((w64 xf)+1)),sd.2))) (some (.inl (sd.1,(w64 xf))))) (some (.inr sd.1))) big (a_1,m_2)) λte=>
Zb (iter (σ:=(Int×(List zf))) (τ:=(List zf)) (λsb=>
cond (decide (sb.1>te)) (Zb (idx sb.2 (w64 (sb.1-1))) λxh=>
Zb (idx sb.2 sb.1) λxn=>
Zb (idx sb.2 sb.1) λxv=>
Zb (idx ((sb.2).set (Int.toNat sb.1) xh) (w64 (sb.1-1))) λxw=>
some (.inl ((w64 (sb.1-1)),((sb.2).set (Int.toNat sb.1) xh).set (Int.toNat (w64 (sb.1-1))) xn))) (some (.inr sb.2))) big (m_2,data_0)) λtf=>
some tf) (Zb (zlb .u64 (IntKind.u64.wrap (w64 (a_1+b_3))) 1) λxa=>
cond (decide (m_2>(w64 xa))) (Zb (iter (σ:=(Int×Int)) (τ:=Int) (λse=>
cond (decide (se.1<se.2)) (Zb (zlb .u64 (IntKind.u64.wrap (w64 (se.1+se.2))) 1) λxb=>
Zb (idx data_0 (w64 ((w64 ((w64 ((w64 xa)+m_2))-1))-(w64 xb)))) λxo=>
Zb (idx data_0 (w64 xb)) λxp=>
Zb (cmp_4 (xo,xp)) λyi=>
cond (!(decide (yi<0))) (some (.inl ((w64 ((w64 xb)+1)),se.2))) (some (.inl (se.1,(w64 xb))))) (some (.inr se.1))) big ((w64 ((w64 ((w64 xa)+m_2))-b_3)),(w64 xa))) λta=>
Zb (cond (decide (ta<m_2)) (some (decide (m_2<(w64 ((w64 ((w64 xa)+m_2))-ta))))) (some false)) λca=>
cond ca (Zb (zaB data_0 ta m_2 (w64 ((w64 ((w64 xa)+m_2))-ta)) cmp_4) λya=>
Zb (cond (decide (a_1<ta)) (some (decide (ta<(w64 xa)))) (some false)) λcc=>
cond cc (Zb (rec ya a_1 ta (w64 xa) cmp_4) λyc=>
Zb (cond (decide ((w64 xa)<(w64 ((w64 ((w64 xa)+m_2))-ta)))) (some (decide ((w64 ((w64 ((w64 xa)+m_2))-ta))<b_3))) (some false)) λcd=>
cond cd (Zb (rec yc (w64 xa) (w64 ((w64 ((w64 xa)+m_2))-ta)) b_3 cmp_4) λyj=>
some yj) (some yc)) (Zb (cond (decide ((w64 xa)<(w64 ((w64 ((w64 xa)+m_2))-ta)))) (some (decide ((w64 ((w64 ((w64 xa)+m_2))-ta))<b_3))) (some false)) λce=>
cond ce (Zb (rec ya (w64 xa) (w64 ((w64 ((w64 xa)+m_2))-ta)) b_3 cmp_4) λyk=>
some yk) (some ya))) (Zb (cond (decide (a_1<ta)) (some (decide (ta<(w64 xa)))) (some false)) λcf=>
cond cf (Zb (rec data_0 a_1 ta (w64 xa) cmp_4) λyd=>
Zb (cond (decide ((w64 xa)<(w64 ((w64 ((w64 xa)+m_2))-ta)))) (some (decide ((w64 ((w64 ((w64 xa)+m_2))-ta))<b_3))) (some false)) λcg=>
cond cg (Zb (rec yd (w64 xa) (w64 ((w64 ((w64 xa)+m_2))-ta)) b_3 cmp_4) λyl=>
some yl) (some yd)) (Zb (cond (decide ((w64 xa)<(w64 ((w64 ((w64 xa)+m_2))-ta)))) (some (decide ((w64 ((w64 ((w64 xa)+m_2))-ta))<b_3))) (some false)) λch=>
cond ch (Zb (rec data_0 (w64 xa) (w64 ((w64 ((w64 xa)+m_2))-ta)) b_3 cmp_4) λym=>
some ym) (some data_0)))) (Zb (iter (σ:=(Int×Int)) (τ:=Int) (λsf=>
cond (decide (sf.1<sf.2)) (Zb (zlb .u64 (IntKind.u64.wrap (w64 (sf.1+sf.2))) 1) λxd=>
Zb (idx data_0 (w64 ((w64 ((w64 ((w64 xa)+m_2))-1))-(w64 xd)))) λxq=>
Zb (idx data_0 (w64 xd)) λxr=>
Zb (cmp_4 (xq,xr)) λyn=>
cond (!(decide (yn<0))) (some (.inl ((w64 ((w64 xd)+1)),sf.2))) (some (.inl (sf.1,(w64 xd))))) (some (.inr sf.1))) big (a_1,m_2)) λtb=>
Zb (cond (decide (tb<m_2)) (some (decide (m_2<(w64 ((w64 ((w64 xa)+m_2))-tb))))) (some false)) λci=>
cond ci (Zb (zaB data_0 tb m_2 (w64 ((w64 ((w64 xa)+m_2))-tb)) cmp_4) λyb=>
Zb (cond (decide (a_1<tb)) (some (decide (tb<(w64 xa)))) (some false)) λcj=>
cond cj (Zb (rec yb a_1 tb (w64 xa) cmp_4) λye=>
Zb (cond (decide ((w64 xa)<(w64 ((w64 ((w64 xa)+m_2))-tb)))) (some (decide ((w64 ((w64 ((w64 xa)+m_2))-tb))<b_3))) (some false)) λck=>
cond ck (Zb (rec ye (w64 xa) (w64 ((w64 ((w64 xa)+m_2))-tb)) b_3 cmp_4) λyo=>
some yo) (some ye)) (Zb (cond (decide ((w64 xa)<(w64 ((w64 ((w64 xa)+m_2))-tb)))) (some (decide ((w64 ((w64 ((w64 xa)+m_2))-tb))<b_3))) (some false)) λcl=>
cond cl (Zb (rec yb (w64 xa) (w64 ((w64 ((w64 xa)+m_2))-tb)) b_3 cmp_4) λyp=>
some yp) (some yb))) (Zb (cond (decide (a_1<tb)) (some (decide (tb<(w64 xa)))) (some false)) λcm=>
cond cm (Zb (rec data_0 a_1 tb (w64 xa) cmp_4) λyf=>
Zb (cond (decide ((w64 xa)<(w64 ((w64 ((w64 xa)+m_2))-tb)))) (some (decide ((w64 ((w64 ((w64 xa)+m_2))-tb))<b_3))) (some false)) λcn=>
cond cn (Zb (rec yf (w64 xa) (w64 ((w64 ((w64 xa)+m_2))-tb)) b_3 cmp_4) λyq=>
some yq) (some yf)) (Zb (cond (decide ((w64 xa)<(w64 ((w64 ((w64 xa)+m_2))-tb)))) (some (decide ((w64 ((w64 ((w64 xa)+m_2))-tb))<b_3))) (some false)) λco=>
cond co (Zb (rec data_0 (w64 xa) (w64 ((w64 ((w64 xa)+m_2))-tb)) b_3 cmp_4) λyr=>
some yr) (some data_0))))))
def zar  :Nat->(List zf)->Int->Int->Int->((zf×zf)->Option (Int))->Option (List zf)
 | 0=>λ_ _ _ _ _=>none
 | k+1=>zaG (zar k)
def za0   (data_0:(List zf)) (n_1:Int) (cmp_2:((zf×zf)->Option (Int))):Option (List zf):=
Zb (iter (σ:=(Int×Int×(List zf))) (τ:=(Int×(List zf))) (λs7=>
cond (decide (s7.2.1<=n_1)) (Zb (z7 s7.2.2 s7.1 s7.2.1 cmp_2) λya=>
some (.inl (s7.2.1,(w64 (s7.2.1+20)),ya))) (some (.inr (s7.1,s7.2.2)))) big (0,20,data_0)) λtb=>
Zb (z7 tb.2 tb.1 n_1 cmp_2) λyb=>
Zb (iter (σ:=(Int×(List zf))) (τ:=(List zf)) (λsa=>
cond (decide (sa.1<n_1)) (Zb (iter (σ:=(Int×Int×(List zf))) (τ:=(Int×(List zf))) (λsb=>
cond (decide (sb.2.1<=n_1)) (Zb (zar big sb.2.2 sb.1 (w64 (sb.1+sa.1)) sb.2.1 cmp_2) λyc=>
some (.inl (sb.2.1,(w64 (sb.2.1+(w64 (2*sa.1)))),yc))) (some (.inr (sb.1,sb.2.2)))) big (0,(w64 (2*sa.1)),sa.2)) λta=>
cond (decide ((w64 (ta.1+sa.1))<n_1)) (Zb (zar big ta.2 ta.1 (w64 (ta.1+sa.1)) n_1 cmp_2) λyd=>
some (.inl ((w64 (sa.1*2)),yd))) (some (.inl ((w64 (sa.1*2)),ta.2)))) (some (.inr sa.2))) big (20,yb)) λtc=>
some tc
def zak   (x_0:(List zf)) (cmp_1:((zf×zf)->Option (Int))):Option (List zf):=
Zb (za0 x_0 (zl x_0) cmp_1) λy1=>
some y1
def zbZ   (l_0:(List zf)) (order_1:((zf×zf)->Option (Int))):Option (List zf):=
Zb (zak l_0 order_1) λy1=>
some y1
def zbT (x_0:Int):Option (Bool):=
some (x_0 !=x_0)
def zcw (x_0:Int) (y_1:Int):Option (Int):=
Zb (zbT x_0) λy1=>
Zb (zbT y_1) λy2=>
cond y1 (cond y2 (some 0) (some (-1))) (cond y2 (some 1) (cond (decide (x_0<y_1)) (some (-1)) (cond (decide (x_0>y_1)) (some 1) (some 0))))
def zfT (vals_0:(List Int)):Option (Int):=
Zb (iter (σ:=Int) (τ:=Unit⊕(Int)) (λs4=>
cond (decide (s4<(zl vals_0))) (Zb (idx vals_0 s4) λx7=>
cond (x7 !=0) (some (.inr (.inr x7))) (some (.inl (w64 (s4+1))))) (some (.inr (.inl ())))) big 0) λt9=>
alt (λbb=>some 0) (λba=>some ba) t9
def zgB (a_0:zT) (b_1:zT):Option (Int):=
Zb (zcw a_0.1 b_1.1) λy5=>
Zb (zcw a_0.2.1 b_1.2.1) λy6=>
Zb (zcw a_0.2.2.1 b_1.2.2.1) λy7=>
Zb (zfT ([y5,y6,y7])) λy8=>
some y8
def zdc (a_0:zf) (b_1:zf):Option (Int):=
Zb (idx a_0.1.1 0) λx6=>
Zb (idx b_1.1.1 0) λx7=>
Zb (zgB x6 x7) λy8=>
Zb (zcw (zl a_0.1.1) (zl b_1.1.1)) λy9=>
Zb (zfT ([y8,y9])) λya=>
Zb (cond (ya !=0) (some true) (some ((zl a_0.1.1)==1))) λca=>
cond ca (some ya) (Zb (idx a_0.1.1 1) λxa=>
Zb (idx b_1.1.1 1) λxb=>
Zb (zgB xa xb) λyb=>
some yb)
def zdQ (c_0:zaM):Option (List zf):=
Zb (zc1 c_0) λy2=>
Zb (iter (σ:=(Int×(List zf))) (τ:=(List zf)) (λsb=>
cond (decide (sb.1<(zl y2))) (Zb (idx y2 sb.1) λxa=>
Zb ((λx=>zH x c_0) xa) λya=>
Zb (zb6 ya ([xa]) c_0 sb.2) λyb=>
Zb (iter (σ:=(Int×(List zf))) (τ:=(List zf)) (λsa=>
cond (decide (sa.1<(zl y2))) (Zb (idx y2 sa.1) λxb=>
Zb ((λx=>zH x c_0) xa) λyc=>
Zb ((λx=>zH x c_0) xb) λyd=>
cond ((zyz .u64 yc yd)==0) (Zb ((λx=>zH x c_0) xa) λye=>
Zb ((λx=>zH x c_0) xb) λyf=>
Zb (zb6 (bOr .u64 ye yf) ([xa,xb]) c_0 sa.2) λyg=>
some (.inl ((w64 (sa.1+1)),yg))) (some (.inl ((w64 (sa.1+1)),sa.2)))) (some (.inr sa.2))) big (0,yb)) λta=>
some (.inl ((w64 (sb.1+1)),ta))) (some (.inr sb.2))) big (0,[])) λtb=>
Zb (zbZ tb (λx=>zdc x.1 x.2)) λyh=>
some yh
def zgC (tasks_0:(List Task)) (y_1:Yard) (cars_2:(List (List Int))) (w_3:zeN):Option ((List Duty)×Int):=
Zb (zfd tasks_0 y_1 cars_2 w_3) λy1=>
cond (!y1.2) (some ([],2)) (cond (decide ((zl tasks_0)>14)) (some ([],3)) (Zb y1.1 λp4=>
Zb (zdQ p4) λy5=>
Zb (zwB .u64 1 (zl tasks_0)) λx7=>
Zb (iter (σ:=(Int×(List (Int×zbF)))) (τ:=(List (Int×zbF))) (λsc=>
cond (decide (sc.1<(IntKind.u64.wrap ((IntKind.u64.wrap (x7-1))+1)))) (Zb (iter (σ:=(Int×(List (Int×zbF)))) (τ:=(List (Int×zbF))) (λsb=>
cond (decide (sb.1<(zl y5))) (Zb (idx y5 sb.1) λxa=>
cond (sc.1==0) (some (.inl ((w64 (sb.1+1)),sb.2))) (cond ((zyz .u64 xa.2.1 (zyz .u64 sc.1 (IntKind.u64.wrap (0-sc.1))))==0) (some (.inl ((w64 (sb.1+1)),sb.2))) (cond ((zbI .u64 xa.2.1 sc.1)!=0) (some (.inl ((w64 (sb.1+1)),sb.2))) (cond (!((mget sb.2 (zbI .u64 sc.1 xa.2.1)).isSome)) (some (.inl ((w64 (sb.1+1)),sb.2))) (cond (!((mget sb.2 sc.1).isSome)) (some (.inl ((w64 (sb.1+1)),(mset sb.2 sc.1 (((w64 (((mget sb.2 (zbI .u64 sc.1 xa.2.1)).getD (0,0,())).1+1)),(w64 (((mget sb.2 (zbI .u64 sc.1 xa.2.1)).getD (0,0,())).2.1+xa.2.2.1)),()):zbF))))) (cond (decide ((w64 (((mget sb.2 (zbI .u64 sc.1 xa.2.1)).getD (0,0,())).1+1))<((mget sb.2 sc.1).getD (0,0,())).1)) (some (.inl ((w64 (sb.1+1)),(mset sb.2 sc.1 (((w64 (((mget sb.2 (zbI .u64 sc.1 xa.2.1)).getD (0,0,())).1+1)),(w64 (((mget sb.2 (zbI .u64 sc.1 xa.2.1)).getD (0,0,())).2.1+xa.2.2.1)),()):zbF))))) (cond ((w64 (((mget sb.2 (zbI .u64 sc.1 xa.2.1)).getD (0,0,())).1+1))==((mget sb.2 sc.1).getD (0,0,())).1) (cond (decide ((w64 (((mget sb.2 (zbI .u64 sc.1 xa.2.1)).getD (0,0,())).2.1+xa.2.2.1))<((mget sb.2 sc.1).getD (0,0,())).2.1)) (some (.inl ((w64 (sb.1+1)),(mset sb.2 sc.1 (((w64 (((mget sb.2 (zbI .u64 sc.1 xa.2.1)).getD (0,0,())).1+1)),(w64 (((mget sb.2 (zbI .u64 sc.1 xa.2.1)).getD (0,0,())).2.1+xa.2.2.1)),()):zbF))))) (some (.inl ((w64 (sb.1+1)),sb.2)))) (some (.inl ((w64 (sb.1+1)),sb.2)))))))))) (some (.inr sb.2))) big (0,sc.2)) λtb=>
some (.inl ((IntKind.u64.wrap (sc.1+1)),tb))) (some (.inr sc.2))) big (0,(mset ([]:(List (Int×zbF))) 0 ((0,0,()):zbF)))) λta=>
cond (!((mget ta (IntKind.u64.wrap (x7-1))).isSome)) (some ([],4)) (Zb (iter (σ:=((List Duty)×Int×Int×Int)) (τ:=(List Duty)) (λsd=>
cond (sd.2.1 !=0) (Zb (iter (σ:=((List Duty)×Int×Int×Int×Int)) (τ:=((List Duty)×Int×Bool×zbF×Int×Int×Int×Int×Int×Int×zbF×Bool×Int×Int)⊕((List Duty)×Int×Int)) (λsa=>
cond (decide (sa.2.2.1<(zl y5))) (Zb (idx y5 sa.2.2.1) λxb=>
cond ((zbI .u64 xb.2.1 sa.2.1)==0) (cond ((mget ta (zbI .u64 sa.2.1 xb.2.1)).isSome) (cond (((mget ta (zbI .u64 sa.2.1 xb.2.1)).getD (0,0,()))==(((w64 (sa.2.2.2.1-1)),(w64 (sa.2.2.2.2-xb.2.2.1)),()):zbF)) (Zb (zcL 24 sa.1 ([xb.1])) λxd=>
some (.inr (.inl (xd,(zbI .u64 sa.2.1 xb.2.1),((mget ta (zbI .u64 sa.2.1 xb.2.1)).isSome),((mget ta (zbI .u64 sa.2.1 xb.2.1)).getD (0,0,())),sa.2.2.2.1,(w64 (sa.2.2.2.1-1)),sa.2.2.2.2,xb.2.2.1,xb.2.2.1,(w64 (sa.2.2.2.2-xb.2.2.1)),(((w64 (sa.2.2.2.1-1)),(w64 (sa.2.2.2.2-xb.2.2.1)),()):zbF),(((mget ta (zbI .u64 sa.2.1 xb.2.1)).getD (0,0,()))==(((w64 (sa.2.2.2.1-1)),(w64 (sa.2.2.2.2-xb.2.2.1)),()):zbF)),((mget ta (zbI .u64 sa.2.1 xb.2.1)).getD (0,0,())).1,((mget ta (zbI .u64 sa.2.1 xb.2.1)).getD (0,0,())).2.1)))) (some (.inl (sa.1,sa.2.1,(w64 (sa.2.2.1+1)),sa.2.2.2.1,sa.2.2.2.2)))) (some (.inl (sa.1,sa.2.1,(w64 (sa.2.2.1+1)),sa.2.2.2.1,sa.2.2.2.2)))) (some (.inl (sa.1,sa.2.1,(w64 (sa.2.2.1+1)),sa.2.2.2.1,sa.2.2.2.2)))) (some (.inr (.inr (sa.1,sa.2.2.2.1,sa.2.2.2.2))))) big (sd.1,sd.2.1,0,sd.2.2.1,sd.2.2.2)) λtc=>
alt (λba=>some (.inl (ba.1,ba.2.1,ba.2.2.2.2.2.2.2.2.2.2.2.2.1,ba.2.2.2.2.2.2.2.2.2.2.2.2.2))) (λbb=>some (.inr bb.1)) tc) (some (.inr sd.1))) big ([],(IntKind.u64.wrap (x7-1)),((mget ta (IntKind.u64.wrap (x7-1))).getD (0,0,())).1,((mget ta (IntKind.u64.wrap (x7-1))).getD (0,0,())).2.1)) λtd=>
some (td,0))))
def zhL (tasks_0:(List Task)) (y_1:Yard) (cars_2:(List (List Int))) (w_3:zeN):Option ((List Int)×Int):=
Zb (zfd tasks_0 y_1 cars_2 w_3) λy1=>
cond (!y1.2) (some ([],2)) (Zb (mkO 1 (zl tasks_0) (false:Bool)) λx3=>
Zb y1.1 λp5=>
Zb (zc1 p5) λy6=>
Zb (iter (σ:=(Int×(List Bool))) (τ:=(List Bool)) (λsb=>
cond (decide (sb.1<(zl y6))) (Zb (idx y6 sb.1) λxa=>
Zb y1.1 λpa=>
Zb (zc3 pa (([xa],()):Duty)) λya=>
cond ((zl ya)==0) (Zb (idx cars_2 xa.1) λxe=>
Zb (slO xe xa.2.1 (w64 (xa.2.2.1+1))) λxb=>
Zb (iter (σ:=(Int×(List Bool))) (τ:=(List Bool)) (λsc=>
cond (decide (sc.1<(zl xb))) (Zb (idx xb sc.1) λxd=>
Zb (idx sc.2 xd) λxh=>
some (.inl ((w64 (sc.1+1)),(sc.2).set (Int.toNat xd) true))) (some (.inr sc.2))) big (0,sb.2)) λtb=>
some (.inl ((w64 (sb.1+1)),tb))) (some (.inl ((w64 (sb.1+1)),sb.2)))) (some (.inr sb.2))) big (0,x3)) λta=>
Zb (iter (σ:=((List Int)×Int)) (τ:=(List Int)) (λsa=>
cond (decide (sa.2<(zl ta))) (Zb (idx ta sa.2) λxf=>
cond (!xf) (Zb (zcL 8 sa.1 ([sa.2])) λxg=>
some (.inl (xg,(w64 (sa.2+1))))) (some (.inl (sa.1,(w64 (sa.2+1)))))) (some (.inr sa.1))) big ([],0)) λtc=>
some (tc,0))
def zdW (a_0:(List Int)) (b_1:(List Int)):Option (Bool):=
cond ((zl a_0)!=(zl b_1)) (some false) (Zb (iter (σ:=Int) (τ:=Unit⊕(Bool)) (λs8=>
cond (decide (s8<(zl a_0))) (Zb (idx a_0 s8) λxa=>
Zb (idx b_1 s8) λxb=>
cond (xa !=xb) (some (.inr (.inr false))) (some (.inl (w64 (s8+1))))) (some (.inr (.inl ())))) big 0) λta=>
alt (λbb=>some true) (λba=>some ba) ta)
def zgD (a_0:(List (List Int))) (b_1:(List (List Int))):Option (Bool):=
cond ((zl a_0)!=(zl b_1)) (some false) (Zb (iter (σ:=Int) (τ:=Unit⊕(Bool)) (λsa=>
cond (decide (sa<(zl a_0))) (Zb (idx a_0 sa) λxa=>
Zb (idx b_1 sa) λxb=>
Zb (zdW xa xb) λya=>
cond (!ya) (some (.inr (.inr false))) (some (.inl (w64 (sa+1))))) (some (.inr (.inl ())))) big 0) λta=>
alt (λbb=>some true) (λba=>some ba) ta)
def zfY (a_0:Duty) (b_1:Duty):Option (Bool):=
cond ((zl a_0.1)!=(zl b_1.1)) (some false) (Zb (iter (σ:=Int) (τ:=Unit⊕(Bool)) (λs8=>
cond (decide (s8<(zl a_0.1))) (Zb (idx a_0.1 s8) λxa=>
Zb (idx b_1.1 s8) λxb=>
cond (xa !=xb) (some (.inr (.inr false))) (some (.inl (w64 (s8+1))))) (some (.inr (.inl ())))) big 0) λta=>
alt (λbb=>some true) (λba=>some ba) ta)
def zgE (a_0:(List Duty)) (b_1:(List Duty)):Option (Bool):=
cond ((zl a_0)!=(zl b_1)) (some false) (Zb (iter (σ:=Int) (τ:=Unit⊕(Bool)) (λsa=>
cond (decide (sa<(zl a_0))) (Zb (idx a_0 sa) λxa=>
Zb (idx b_1 sa) λxb=>
Zb (zfY xa xb) λya=>
cond (!ya) (some (.inr (.inr false))) (some (.inl (w64 (sa+1))))) (some (.inr (.inl ())))) big 0) λta=>
alt (λbb=>some true) (λba=>some ba) ta)
def zb7 :Option (Bool):=
Zb zfz λy1=>
Zb (zhK y1.1 y1.2.1) λy4=>
Zb (zgC y1.1 y1.2.1 ([[0,2,4],[1,3]]) y1.2.2) λy7=>
Zb (zhL y1.1 y1.2.1 ([[0,2,4],[1,3]]) (129,y1.2.2.2.1,y1.2.2.2.2.1,y1.2.2.2.2.2.1,y1.2.2.2.2.2.2.1,y1.2.2.2.2.2.2.2.1,())) λy9=>
Zb (cond (y4.2.2 !=0) (some true) (cond (y7.2 !=0) (some true) (some (y9.2 !=0)))) λca=>
cond ca (some false) (Zb (Zb (zgD y4.1 ([[0,2,4],[1,3]])) λya=>
cond ya (Zb (zdW y4.2.1.1 ([0,1])) λyb=>
cond yb (Zb (zdW y4.2.1.2.1 ([4])) λyc=>
cond yc (Zb (zgE y7.1 ([(([((0,0,1,()):zT)],()):Duty),(([((1,0,1,()):zT),((0,2,2,()):zT)],()):Duty)])) λyd=>
cond yd (Zb (zdW y9.1 ([1,3])) λye=>
some ye) (some false)) (some false)) (some false)) (some false)) λcc=>
some cc)
def zae (x_0:Int) (low_1:Int) (high_2:Int):Option (Bool):=
Zb (cond (decide (x_0>=low_1)) (some (decide (x_0<=high_2))) (some false)) λc2=>
some c2
def zdr (l_0:Line):Option (List Course):=
some ([l_0.1,l_0.2.1]:(List Course))
def zN (x_0:Int) (low_1:Int) (high_2:Int):Option (Bool):=
Zb (cond (decide (x_0>=low_1)) (some (decide (x_0<=high_2))) (some false)) λc2=>
some c2
def zas (s_0:(List zcM)) (f_1:((zcM)->Option (Bool))):Option (Int):=
Zb (iter (σ:=Int) (τ:=Unit⊕(Int)) (λs5=>
cond (decide (s5<(zl s_0))) (Zb (idx s_0 s5) λx8=>
Zb (f_1 x8) λy9=>
cond y9 (some (.inr (.inr s5))) (some (.inl (w64 (s5+1))))) (some (.inr (.inl ())))) big 0) λta=>
alt (λbb=>some (-1)) (λba=>some ba) ta
def zah (s_0:(List zcM)) (f_1:((zcM)->Option (Bool))):Option (Bool):=
Zb (zas s_0 f_1) λy1=>
some (decide (y1>=0))
def zcF (s_0:Spot):Option (Bool):=
Zb (Zb (zN s_0.1 (-10000000) 10000000) λy5=>
cond y5 (Zb (zN s_0.2.1 (-10000000) 10000000) λy7=>
some y7) (some false)) λc4=>
some c4
def zfe :Option (List Int):=
some (List.replicate 1 0++([1,2,4,3,3,3]:(List Int)))
def zeO (n_0:zcM):Option (Bool):=
Zb (cond (decide (n_0.2.1<1)) (some true) (cond (decide (n_0.2.1>6)) (some true) (Zb (zcF n_0.1) λya=>
cond (!ya) (some true) (Zb zfe λyb=>
Zb (idx yb n_0.2.1) λxa=>
some ((zl n_0.2.2.1)!=xa))))) λca=>
cond ca (some false) (Zb (cond (n_0.2.1==5) (some true) (some (n_0.2.1==6))) λcc=>
cond cc (Zb (zN n_0.2.2.2.1 1 2) λyc=>
some yc) (some (n_0.2.2.2.1==0)))
def zfA (n_0:zcM):Option (Bool):=
Zb (zeO n_0) λy1=>
some (!y1)
def zat (s_0:(List Rail)) (f_1:((Rail)->Option (Bool))):Option (Int):=
Zb (iter (σ:=Int) (τ:=Unit⊕(Int)) (λs5=>
cond (decide (s5<(zl s_0))) (Zb (idx s_0 s5) λx8=>
Zb (f_1 x8) λy9=>
cond y9 (some (.inr (.inr s5))) (some (.inl (w64 (s5+1))))) (some (.inr (.inl ())))) big 0) λta=>
alt (λbb=>some (-1)) (λba=>some ba) ta
def zai (s_0:(List Rail)) (f_1:((Rail)->Option (Bool))):Option (Bool):=
Zb (zat s_0 f_1) λy1=>
some (decide (y1>=0))
def zap (n_1:Int):Option (List Spot):=
cond (decide (n_1<0)) none (cond (decide ((w64 (n_1-(w64 (0-0))))>0)) (Zb (zre 16 (w64 (n_1-(w64 (0-0)))) ((0,0,()):Spot)) λx3=>
Zb (slz x3) λx5=>
some ([]:List Spot)) (some ([])))
def zaj (slices_0:(List (List Spot))):Option (List Spot):=
Zb (iter (σ:=(Int×Int)) (τ:=Int) (λs4=>
cond (decide (s4.2<(zl slices_0))) (Zb (idx slices_0 s4.2) λx7=>
cond (decide ((w64 (s4.1+(zl x7)))<0)) none (some (.inl ((w64 (s4.1+(zl x7))),(w64 (s4.2+1)))))) (some (.inr s4.1))) big (0,0)) λt9=>
Zb (zap t9) λya=>
Zb (iter (σ:=((List Spot)×Int)) (τ:=(List Spot)) (λsa=>
cond (decide (sa.2<(zl slices_0))) (Zb (idx slices_0 sa.2) λxa=>
Zb (zcL 16 sa.1 xa) λxb=>
some (.inl (xb,(w64 (sa.2+1))))) (some (.inr sa.1))) big (ya,0)) λta=>
some ta
def zdX (p_0:Plan) (r_1:Rail):Option (List Spot):=
Zb (idx p_0.1 r_1.1) λx5=>
Zb (idx p_0.1 r_1.2.1) λx6=>
Zb (zaj ([[x5.1],r_1.2.2.1,[x6.1]])) λy7=>
some y7
def zeP (n_0:Int):Option (Int):=
Zb (FloatKind.f64.format.sqrt (FloatKind.f64.nearest n_0)) λx1=>
Zb (f2i x1) λx2=>
Zb (iter (σ:=Int) (τ:=Int) (λs4=>
cond (decide ((w64 (s4*s4))>n_0)) (some (.inl (w64 (s4-1)))) (some (.inr s4))) big x2) λt7=>
Zb (iter (σ:=Int) (τ:=Int) (λsa=>
cond (decide ((w64 ((w64 (sa+1))*(w64 (sa+1))))<=n_0)) (some (.inl (w64 (sa+1)))) (some (.inr sa))) big t7) λta=>
some ta
def zcG (a_0:Spot) (b_1:Spot):Option (Int):=
Zb (zeP (w64 ((w64 ((w64 (a_0.1-b_1.1))*(w64 (a_0.1-b_1.1))))+(w64 ((w64 (a_0.2.1-b_1.2.1))*(w64 (a_0.2.1-b_1.2.1))))))) λy1=>
some y1
def zeQ (p_0:Plan) (r_1:Rail):Option (Bool):=
Zb (Zb (zN r_1.1 0 (w64 ((zl p_0.1)-1))) λyb=>
cond (!yb) (some true) (Zb (zN r_1.2.1 0 (w64 ((zl p_0.1)-1))) λyc=>
cond (!yc) (some true) (cond (decide ((zl r_1.2.2.1)>30)) (some true) (Zb (zN r_1.2.2.2.1 1 50000) λyd=>
cond (!yd) (some true) (Zb (zN r_1.2.2.2.2.1 (-120) 120) λye=>
some (!ye)))))) λc9=>
cond c9 (some false) (Zb (zdX p_0 r_1) λya=>
Zb (iter (σ:=Int) (τ:=Unit⊕(Bool)) (λsa=>
cond (decide (sa<(zl ya))) (Zb (idx ya sa) λxa=>
Zb (zcF xa) λyf=>
cond (!yf) (some (.inr (.inr false))) (cond (decide (sa>0)) (Zb (idx ya (w64 (sa-1))) λxb=>
Zb (zcG xb xa) λyg=>
Zb (zN yg 1 1000000) λyh=>
cond (!yh) (some (.inr (.inr false))) (some (.inl (w64 (sa+1))))) (some (.inl (w64 (sa+1)))))) (some (.inr (.inl ())))) big 0) λta=>
alt (λbb=>some true) (λba=>some ba) ta)
def zed (r_0:Rail) (p_1:Plan):Option (Bool):=
Zb (zeQ p_1 r_0) λy1=>
some (!y1)
def zch (p_0:Plan) (e_1:zn):Option (Int):=
cond e_1.2.1 (Zb (idx p_0.2.1 e_1.1) λx2=>
some x2.2.1) (Zb (idx p_0.2.1 e_1.1) λx3=>
some x3.1)
def zds (p_0:Plan):Option (Int):=
Zb (Zb (zN (zl p_0.1) 1 300) λy5=>
cond (!y5) (some true) (Zb (zN (zl p_0.2.1) 1 400) λy7=>
some (!y7))) λc4=>
cond c4 (some 2) (Zb (Zb (zah p_0.1 (λx=>zfA x)) λya=>
cond ya (some true) (Zb (zai p_0.2.1 (λx=>zed x p_0)) λyb=>
some yb)) λca=>
cond ca (some 2) (Zb (iter (σ:=(Int×(List (zn×Bool)))) (τ:=(List (zn×Bool))⊕(Int)) (λsb=>
cond (decide (sb.1<(zl p_0.1))) (Zb (idx p_0.1 sb.1) λxb=>
Zb (iter (σ:=(Int×(List (zn×Bool)))) (τ:=(List (zn×Bool))⊕(Int×(List (zn×Bool)))) (λsa=>
cond (decide (sa.1<(zl xb.2.2.1))) (Zb (idx xb.2.2.1 sa.1) λxa=>
Zb (zN xa.1 0 (w64 ((zl p_0.2.1)-1))) λyc=>
cond (!yc) (some (.inr (.inr (2,sa.2)))) (cond ((mget sa.2 xa).getD false) (some (.inr (.inr (2,sa.2)))) (Zb (zch p_0 xa) λyd=>
cond (yd !=sb.1) (some (.inr (.inr (2,sa.2)))) (some (.inl ((w64 (sa.1+1)),(mset sa.2 xa true))))))) (some (.inr (.inl sa.2)))) big (0,sb.2)) λta=>
alt (λba=>some (.inl ((w64 (sb.1+1)),ba))) (λbb=>some (.inr (.inr bb.1))) ta) (some (.inr (.inl sb.2)))) big (0,([]:(List (zn×Bool))))) λtb=>
alt (λbc=>Zb (zs9 bc) λxd=>
cond (xd !=(w64 (2*(zl p_0.2.1)))) (some 2) (some 0)) (λbd=>some bd) tb))
def zdY (p_0:Plan):Option ((Option za4)×Bool):=
Zb (zds p_0) λy1=>
cond (y1 !=0) (some ((none:Option za4),false)) (Zb (iter (σ:=(Int×(List Int))) (τ:=(List Int)) (λsc=>
cond (decide (sc.1<(zl p_0.2.1))) (Zb (idx p_0.2.1 sc.1) λxb=>
Zb (zdX p_0 xb) λya=>
Zb (iter (σ:=(Int×Int)) (τ:=Int) (λsa=>
cond (decide (sa.2<(zl ya))) (Zb (idx ya (w64 (sa.2-1))) λxd=>
Zb (idx ya sa.2) λxe=>
Zb (zcG xd xe) λyb=>
some (.inl ((w64 (sa.1+yb)),(w64 (sa.2+1))))) (some (.inr sa.1))) big (0,1)) λta=>
Zb (zcL 8 sc.2 ([ta])) λxf=>
some (.inl ((w64 (sc.1+1)),xf))) (some (.inr sc.2))) big (0,[])) λtb=>
Zb (iter (σ:=(Int×(List (zn×Int)))) (τ:=(List (zn×Int))) (λsd=>
cond (decide (sd.1<(zl p_0.1))) (Zb (idx p_0.1 sd.1) λxa=>
Zb (iter (σ:=(Int×(List (zn×Int)))) (τ:=(List (zn×Int))) (λsb=>
cond (decide (sb.1<(zl xa.2.2.1))) (Zb (idx xa.2.2.1 sb.1) λxg=>
some (.inl ((w64 (sb.1+1)),(mset sb.2 xg sb.1)))) (some (.inr sb.2))) big (0,sd.2)) λtc=>
some (.inl ((w64 (sd.1+1)),tc))) (some (.inr sd.2))) big (0,([]:(List (zn×Int))))) λtd=>
some ((some ((p_0.1,p_0.2.1,()),tb,td,())),true))
def zbm (n_0:za4) (m_1:zR):Option (Bool):=
Zb (zN m_1.1 0 (w64 ((zl n_0.1.2.1)-1))) λy2=>
some y2
def zee (m_0:zR):Option (zn):=
some ((m_0.1,(!m_0.2.1),()):zn)
def zfB (p_0:zav) (from_1:Int) (to_2:Int):Option (Bool):=
some false
def zeR (p_0:zav) (from_1:Int) (to_2:Int):Option (Bool):=
some (from_1 !=to_2)
def zbv (p_0:zav) (from_1:Int) (to_2:Int):Option (Bool):=
Zb (cond (from_1 !=to_2) (Zb (zue (w64 (from_1+to_2)) 2) λx5=>
some (x5==0)) (some false)) λc3=>
some c3
def zbU (p_0:zav) (from_1:Int) (to_2:Int):Option (Bool):=
Zb (cond (from_1 !=to_2) (cond (from_1==0) (some true) (some (to_2==0))) (some false)) λc3=>
some c3
def zbh (x_0:zav) (from_1:Int) (to_2:Int):Option (Bool):=
Zb (cond (from_1 !=0) (cond (to_2==0) (some true) (cond (from_1==0) (some (to_2==x_0.1.2.2.2.1)) (some false))) (cond (from_1==0) (some (to_2==x_0.1.2.2.2.1)) (some false))) λc5=>
some c5
def zbi (x_0:zav) (from_1:Int) (to_2:Int):Option (Bool):=
Zb (cond (from_1==0) (cond (to_2==x_0.1.2.2.2.1) (some true) (cond (from_1==x_0.1.2.2.2.1) (some (to_2==0)) (some false))) (cond (from_1==x_0.1.2.2.2.1) (some (to_2==0)) (some false))) λc5=>
some c5
def za9 (x_0:zav) (from_1:Int) (to_2:Int):Option (Bool):=
Zb (idx (List.replicate 1 (λ_=>none)++([(λx=>zfB x.1 x.2.1 x.2.2),(λx=>zeR x.1 x.2.1 x.2.2),(λx=>zbv x.1 x.2.1 x.2.2),(λx=>zbU x.1 x.2.1 x.2.2),(λx=>zbh x.1 x.2.1 x.2.2),(λx=>zbi x.1 x.2.1 x.2.2)]:(List ((zav×Int×Int)->Option Bool)))) x_0.1.2.1) λx4=>
Zb (x4 (x_0,from_1,to_2)) λy5=>
some y5
def zdC (m_0:zR):Option (Int):=
cond m_0.2.1 (some (w64 ((w64 (2*m_0.1))+1))) (some (w64 (2*m_0.1)))
def zaT (x_0:Int) (y_1:Int):Option (Bool):=
Zb (Zb (zbT x_0) λy6=>
cond y6 (Zb (zbT y_1) λy8=>
cond (!y8) (some true) (some (decide (x_0<y_1)))) (some (decide (x_0<y_1)))) λc5=>
some c5
def zZ   (data_0:(List Int)) (a_1:Int) (b_2:Int):Option (List Int):=
Zb (iter (σ:=(Int×(List Int))) (τ:=(List Int)) (λsb=>
cond (decide (sb.1<b_2)) (Zb (iter (σ:=(Int×(List Int))) (τ:=(List Int)) (λsa=>
cond (decide (sa.1>a_1)) (Zb (idx sa.2 sa.1) λxb=>
Zb (idx sa.2 (w64 (sa.1-1))) λxd=>
Zb (zaT xb xd) λya=>
cond ya (Zb (idx sa.2 (w64 (sa.1-1))) λxa=>
Zb (idx sa.2 sa.1) λxe=>
Zb (idx sa.2 sa.1) λxf=>
Zb (idx ((sa.2).set (Int.toNat sa.1) xa) (w64 (sa.1-1))) λxg=>
some (.inl ((w64 (sa.1-1)),((sa.2).set (Int.toNat sa.1) xa).set (Int.toNat (w64 (sa.1-1))) xe))) (some (.inr sa.2))) (some (.inr sa.2))) big (sb.1,sb.2)) λta=>
some (.inl ((w64 (sb.1+1)),ta))) (some (.inr sb.2))) big ((w64 (a_1+1)),data_0)) λtb=>
some tb
def zez (x_0:Int):Option (Int):=
cond (decide (x_0>=4294967296)) (Zb (zlb .u64 x_0 32) λx2=>
cond (decide (x2>=65536)) (Zb (zlb .u64 x2 16) λx4=>
cond (decide (x4>=256)) (Zb (zlb .u64 x4 8) λx6=>
Zb (idx zdx (IntKind.u8.wrap x6)) λx7=>
some (w64 ((w64 ((w64 (32+16))+8))+(w64 x7)))) (Zb (idx zdx (IntKind.u8.wrap x4)) λx8=>
some (w64 ((w64 (32+16))+(w64 x8))))) (cond (decide (x2>=256)) (Zb (zlb .u64 x2 8) λxb=>
Zb (idx zdx (IntKind.u8.wrap xb)) λxd=>
some (w64 ((w64 (32+8))+(w64 xd)))) (Zb (idx zdx (IntKind.u8.wrap x2)) λxe=>
some (w64 (32+(w64 xe)))))) (cond (decide (x_0>=65536)) (Zb (zlb .u64 x_0 16) λxa=>
cond (decide (xa>=256)) (Zb (zlb .u64 xa 8) λxf=>
Zb (idx zdx (IntKind.u8.wrap xf)) λxg=>
some (w64 ((w64 ((w64 (0+16))+8))+(w64 xg)))) (Zb (idx zdx (IntKind.u8.wrap xa)) λxh=>
some (w64 ((w64 (0+16))+(w64 xh))))) (cond (decide (x_0>=256)) (Zb (zlb .u64 x_0 8) λxi=>
Zb (idx zdx (IntKind.u8.wrap xi)) λxj=>
some (w64 ((w64 (0+8))+(w64 xj)))) (Zb (idx zdx (IntKind.u8.wrap x_0)) λxk=>
some (w64 (0+(w64 xk))))))
def zef (x_0:Int):Option (Int):=
Zb (zez x_0) λy2=>
some y2
def za5   (data_0:(List Int)) (a_1:Int) (b_2:Int) (limit_3:Int):Option (List Int):=
Zb (iter (σ:=(Int×Int×Int×Bool×Bool×(List Int))) (τ:=(List Int)) (λsa=>
cond (decide ((w64 (sa.2.1-sa.1))<=12)) (Zb (zZ sa.2.2.2.2.2 sa.1 sa.2.1) λya=>
some (.inr ya)) (cond (sa.2.2.1==0) none (cond (!sa.2.2.2.1) none none))) big (a_1,b_2,limit_3,true,true,data_0)) λta=>
some ta
def zbw   (x_0:(List Int)):Option (List Int):=
Zb (zef (IntKind.u64.wrap (zl x_0))) λy1=>
Zb (za5 x_0 0 (zl x_0) y1) λy2=>
some y2
def zeS (n_0:Int):Option (zR):=
Zb (zdJ .i64 n_0 2) λx2=>
Zb (zue n_0 2) λx3=>
some ((x2,(x3==1),()):zR)
def zbj {σ τ:Type} (step:σ->(zR)->Option (σ⊕τ)) (s_:σ) (p_1:za4) (p_2:zR):Option (σ⊕τ):=
Zb (zee p_2) λy5=>
Zb (zch p_1.1 y5) λy6=>
Zb (idx p_1.1.1 y6) λx7=>
Zb (iter (σ:=((List Int)×Int)) (τ:=(List Int)) (λsa=>
cond (decide (sa.2<(zl x7.2.2.1))) (Zb (idx x7.2.2.1 sa.2) λxa=>
Zb (zee p_2) λyc=>
Zb (za9 ((x7,()):zav) ((mget p_1.2.2.1 yc).getD 0) sa.2) λyd=>
cond yd (Zb (zdC ((xa.1,xa.2.1,()):zR)) λye=>
Zb (zcL 8 sa.1 ([ye])) λxb=>
some (.inl (xb,(w64 (sa.2+1))))) (some (.inl (sa.1,(w64 (sa.2+1)))))) (some (.inr sa.1))) big ([],0)) λta=>
Zb (zbw ta) λyb=>
Zb (iter (σ:=(Int×(σ⊕τ))) (τ:=(σ⊕τ)⊕(σ⊕τ)) (λsb=>
cond (decide (sb.1<(zl yb))) (Zb (idx yb sb.1) λxd=>
Zb (zeS xd) λyf=>
Zb (goL sb.2) λsc=>
Zb (step sc yf) λya=>
cond (!(ya).isLeft) (some (.inr (.inr ya))) (some (.inl ((w64 (sb.1+1)),ya)))) (some (.inr (.inl sb.2)))) big (0,(.inl s_))) λtb=>
alt (λba=>some ba) (λbb=>some bb) tb
def zcp (n_0:za4) (m_1:zR):Option (za4×zR):=
some (n_0,m_1)
def zaR (n_0:za4) (m_1:zR) (k_2:zR):Option (Bool):=
Zb (zcp n_0 m_1) λy2=>
Zb (zbj (σ:=Bool) (τ:=Bool) (λs8 x3=>
cond (x3==k_2) (some (.inr true)) (some (.inl s8))) false y2.1 y2.2) λta=>
alt (λbb=>some false) (λba=>some ba) ta
def zbV (n_0:za4) (l_1:(List zR)):Option (Bool):=
Zb (iter (σ:=Int) (τ:=Unit⊕(Bool)) (λsa=>
cond (decide (sa<(zl l_1))) (Zb (idx l_1 sa) λxa=>
Zb (zbm n_0 xa) λya=>
cond (!ya) (some (.inr (.inr false))) (cond (decide (sa>0)) (Zb (idx l_1 (w64 (sa-1))) λxb=>
Zb (zaR n_0 xb xa) λyb=>
cond (!yb) (some (.inr (.inr false))) (some (.inl (w64 (sa+1))))) (some (.inl (w64 (sa+1)))))) (some (.inr (.inl ())))) big 0) λta=>
alt (λbb=>Zb (zN (zl l_1) 1 2000) λyc=>
some yc) (λba=>some ba) ta
def zaU (n_0:za4) (l_1:(List zR)):Option (Int):=
Zb (iter (σ:=(Int×Int)) (τ:=Int) (λs6=>
cond (decide (s6.2<(zl l_1))) (Zb (idx l_1 s6.2) λx9=>
Zb (idx n_0.2.1 x9.1) λxa=>
some (.inl ((w64 (s6.1+xa)),(w64 (s6.2+1))))) (some (.inr s6.1))) big (0,0)) λta=>
some ta
def zbN (p_0:Plan) (way_1:(List zR)):Option (Int×Int):=
Zb (zdY p_0) λy1=>
Zb (cond (!y1.2) (some true) (Zb y1.1 λp7=>
Zb (zbV p7 way_1) λy8=>
some (!y8))) λc5=>
cond c5 (some (0,2)) (Zb y1.1 λpa=>
Zb (zaU pa way_1) λya=>
some (ya,0))
def zP (n_0:Int) (low_1:Int) (high_2:Int):Option (Bool):=
Zb (cond (decide (n_0>=low_1)) (some (decide (n_0<=high_2))) (some false)) λc2=>
some c2
def ze6 (g_0:Int):Option (Bool):=
Zb (zP g_0 1 1000) λy1=>
some (!y1)
def zdD (t_0:Train):Option (Int):=
Zb (Zb (zP t_0.1 1000 80000) λya=>
cond (!ya) (some true) (Zb (zP t_0.2.1 1 60000) λyb=>
cond (!yb) (some true) (Zb (zP t_0.2.2.1 1 25000) λyc=>
cond (!yc) (some true) (Zb (zP t_0.2.2.2.1 1 200000) λyd=>
cond (!yd) (some true) (Zb (zP t_0.2.2.2.2.1 1 200000) λye=>
cond (!ye) (some true) (Zb (zP t_0.2.2.2.2.2.1 1 2000000) λyf=>
cond (!yf) (some true) (Zb (zP t_0.2.2.2.2.2.2.1 0 100000) λyg=>
cond (!yg) (some true) (Zb (zP t_0.2.2.2.2.2.2.2.1 0 10000) λyh=>
cond (!yh) (some true) (Zb (zP t_0.2.2.2.2.2.2.2.2.1 0 100) λyi=>
some (!yi)))))))))) λca=>
cond ca (some 2) (Zb (Zb (zP (zl t_0.2.2.2.2.2.2.2.2.2.1) 1 8) λyj=>
cond (!yj) (some true) (Zb (zad t_0.2.2.2.2.2.2.2.2.2.1 (λx=>ze6 x)) λyk=>
some yk)) λcc=>
cond cc (some 2) (some 0))
def zdd (t_0:Train) (state_1:Int):Option ((Option zan)×Bool):=
Zb (Zb (zdD t_0) λy5=>
cond (y5 !=0) (some true) (Zb (zP state_1 0 (w64 ((zl t_0.2.2.2.2.2.2.2.2.2.1)-1))) λy7=>
some (!y7))) λc4=>
cond c4 (some ((none:Option zan),false)) (some ((some ((t_0,state_1,()):zan)),true))
def zbL (p_0:Plan) (rail_1:Int):Option (Int×Int):=
Zb (zdY p_0) λy1=>
Zb (cond (!y1.2) (some true) (Zb y1.1 λp7=>
Zb (zbm p7 ((rail_1,false,()):zR)) λy8=>
some (!y8))) λc5=>
cond c5 (some (0,2)) (Zb y1.1 λpa=>
Zb (idx pa.2.1 rail_1) λxa=>
some (xa,0))
def zdE (p_0:Plan) (way_1:(List zR)) (t_2:Train) (state_3:Int) (stops_4:(List Int)):Option ((Option zau)×Bool):=
Zb (zdd t_2 state_3) λy1=>
Zb (zbN p_0 way_1) λy2=>
Zb (cond (!y1.2) (some true) (cond (y2.2 !=0) (some true) (Zb (zP (zl stops_4) 2 100) λyb=>
cond (!yb) (some true) (Zb (idx stops_4 0) λxd=>
cond (decide (xd<t_2.2.1)) (some true) (Zb (idx stops_4 (w64 ((zl stops_4)-1))) λxe=>
some (decide (xe>y2.1))))))) λca=>
cond ca (some ((none:Option zau),false)) (Zb (iter (σ:=Int) (τ:=Unit⊕((Option zau)×Bool)) (λsb=>
cond (decide (sb<(zl stops_4))) (Zb (idx stops_4 sb) λxf=>
Zb (idx stops_4 (w64 (sb-1))) λxg=>
cond (decide (xf<=xg)) (some (.inr (.inr ((none:Option zau),false)))) (some (.inl (w64 (sb+1))))) (some (.inr (.inl ())))) big 1) λta=>
alt (λbd=>Zb y1.1 λpa=>
Zb (iter (σ:=(Int×Int×(List Int)×(List Int)×(List Int))) (τ:=((List Int)×(List Int)×(List Int))⊕((Option zau)×Bool×(List Int)×(List Int)×(List Int))) (λsa=>
cond (decide (sa.2.1<(zl way_1))) (Zb (idx way_1 sa.2.1) λxb=>
Zb (zbL p_0 xb.1) λya=>
cond (ya.2 !=0) (some (.inr (.inr ((none:Option zau),false,sa.2.2.2.2,sa.2.2.2.1,sa.2.2.1)))) (Zb (idx p_0.2.1 xb.1) λxa=>
cond xb.2.1 (Zb (zcL 8 sa.2.2.2.2 ([(w64 (sa.1+ya.1))])) λxh=>
Zb (zcL 8 sa.2.2.2.1 ([xa.2.2.2.1])) λxi=>
Zb (zcL 8 sa.2.2.1 ([(w64 (0-xa.2.2.2.2.1))])) λxj=>
some (.inl ((w64 (sa.1+ya.1)),(w64 (sa.2.1+1)),xj,xi,xh))) (Zb (zcL 8 sa.2.2.2.2 ([(w64 (sa.1+ya.1))])) λxk=>
Zb (zcL 8 sa.2.2.2.1 ([xa.2.2.2.1])) λxl=>
Zb (zcL 8 sa.2.2.1 ([xa.2.2.2.2.1])) λxm=>
some (.inl ((w64 (sa.1+ya.1)),(w64 (sa.2.1+1)),xm,xl,xk))))) (some (.inr (.inl (sa.2.2.2.2,sa.2.2.2.1,sa.2.2.1))))) big (0,0,[],[],[])) λtb=>
alt (λba=>some ((some (pa,way_1,ba.1,ba.2.1,ba.2.2,stops_4,())),true)) (λbb=>some (bb.1,bb.2.1)) tb) (λbc=>some (bc.1,bc.2)) ta)
def zU (m_0:zan) (x_1:zb):Option (Int):=
Zb (zdJ .i64 x_1.2.1 (w64 (10*m_0.1.1))) λx2=>
some x2
def zc4 (x_0:Int):Option (Bool):=
some (x_0 !=x_0)
def zE (x_0:(List Int)) (target_1:Int):Option (Int×Bool):=
Zb (iter (σ:=(Int×Int)) (τ:=Int) (λs6=>
cond (decide (s6.1<s6.2)) (Zb (zlb .u64 (IntKind.u64.wrap (w64 (s6.1+s6.2))) 1) λx9=>
Zb (idx x_0 (w64 x9)) λxa=>
Zb (zaT xa target_1) λya=>
cond ya (some (.inl ((w64 ((w64 x9)+1)),s6.2))) (some (.inl (s6.1,(w64 x9))))) (some (.inr s6.1))) big (0,(zl x_0))) λta=>
Zb (cond (decide (ta<(zl x_0))) (Zb (idx x_0 ta) λxb=>
cond (xb==target_1) (some (ta,true)) (Zb (idx x_0 ta) λxd=>
Zb (zc4 xd) λyb=>
cond yb (Zb (zc4 target_1) λyc=>
some (ta,yc)) (some (ta,false)))) (some (ta,false))) λca=>
some (ca.1,ca.2)
def zaJ (r_0:zau) (x_1:zb):Option (Int):=
Zb (zU r_0.1 x_1) λy2=>
Zb (zE r_0.2.2.1 (w64 (y2+1))) λy3=>
Zb (idx r_0.2.2.2.2.1 (min y3.1 (w64 ((zl r_0.2.2.2.2.1)-1)))) λx5=>
some x5
def za6 (m_0:zan):Option (Int):=
Zb (idx m_0.1.2.2.2.2.2.2.2.2.2.1 m_0.2.1) λx3=>
Zb (zdJ .i64 (w64 ((w64 (x3*m_0.1.1))*981)) 100000) λx4=>
some x4
def zaZ (m_0:zan) (v_1:Int) (demand_2:Int) (slope_3:Int):Option (Int):=
cond (decide (demand_2<=0)) (some 0) (Zb (zdJ .i64 (w64 (m_0.1.2.2.2.1*demand_2)) 4) λx4=>
Zb (za6 m_0) λy5=>
cond (decide (v_1>0)) (Zb (zdJ .i64 (w64 (1000*m_0.1.2.2.2.2.2.1)) v_1) λx7=>
some (min (min x4 y5) x7)) (some (min x4 y5)))
def zaS (m_0:zan) (v_1:Int) (demand_2:Int) (slope_3:Int):Option (Int):=
cond (decide (demand_2>=0)) (some 0) (Zb (zdJ .i64 (w64 (m_0.1.2.2.2.2.1*(w64 (0-demand_2)))) 4) λx4=>
Zb (za6 m_0) λy5=>
some (min x4 y5))
def zbn (m_0:zan) (v_1:Int) (demand_2:Int) (slope_3:Int):Option (Int):=
Zb (zdJ .i64 (w64 (m_0.1.2.2.2.2.2.2.2.1*v_1)) 1000) λx2=>
some (w64 (m_0.1.2.2.2.2.2.2.1+x2))
def zbo (m_0:zan) (v_1:Int) (demand_2:Int) (slope_3:Int):Option (Int):=
Zb (zdJ .i64 (w64 ((w64 (m_0.1.1*slope_3))*981)) 100000) λx1=>
some x1
def zb8 (m_0:zan) (v_1:Int) (demand_2:Int) (slope_3:Int):Option (List Int):=
Zb (iter (σ:=(Int×(List Int))) (τ:=(List Int)) (λsa=>
cond (decide (sa.1<4)) (Zb (idx ([(λx=>zaZ m_0 x.1 x.2.1 x.2.2),(λx=>zaS m_0 x.1 x.2.1 x.2.2),(λx=>zbn m_0 x.1 x.2.1 x.2.2),(λx=>zbo m_0 x.1 x.2.1 x.2.2)]:(List ((Int×Int×Int)->Option Int))) sa.1) λxa=>
Zb (xa (v_1,demand_2,slope_3)) λya=>
Zb (idx sa.2 sa.1) λxb=>
some (.inl ((w64 (sa.1+1)),(sa.2).set (Int.toNat sa.1) ya))) (some (.inr sa.2))) big (0,(List.replicate 4 (0:Int)))) λta=>
some ta
def zba (m_0:zan) (x_1:zb):Option (Int):=
Zb (zdJ .i64 x_1.1 m_0.1.1) λx2=>
some x2
def zax (m_0:zan) (x_1:zb) (demand_2:Int) (slope_3:Int):Option (za2×Bool):=
Zb (zba m_0 x_1) λy2=>
Zb (zb8 m_0 y2 demand_2 slope_3) λy3=>
Zb (idx y3 0) λx5=>
Zb (idx y3 1) λx6=>
Zb (idx y3 2) λx7=>
Zb (idx y3 3) λx8=>
Zb (cond (decide ((w64 (x_1.1+(w64 (100*(w64 ((w64 ((w64 (x5-x6))-x7))-x8))))))<0)) (some true) (cond (x_1.1==0) (some (decide ((w64 ((w64 ((w64 (x5-x6))-x7))-x8))<=0))) (some false))) λca=>
cond ca (Zb (idx y3 0) λxa=>
Zb (idx y3 1) λxb=>
Zb (idx y3 2) λxd=>
Zb (idx y3 3) λxe=>
Zb (idx y3 0) λxf=>
Zb (zdJ .i64 (w64 ((w64 ((w64 (xf*0))+(w64 (1000*m_0.1.1))))-1)) (w64 (1000*m_0.1.1))) λxg=>
Zb (idx y3 1) λxh=>
Zb (zdJ .i64 (w64 ((w64 (xh*0))*m_0.1.2.2.2.2.2.2.2.2.1)) (w64 (100000*m_0.1.1))) λxi=>
some (((0,(w64 (x_1.2.1+0)),()),((w64 ((w64 (200*xa))*0)),(w64 ((w64 (200*xb))*0)),(w64 ((w64 (200*xd))*0)),(w64 ((w64 (200*xe))*0)),0,(w64 (x_1.1*x_1.1)),()),xg,xi,()),(decide (0<=(w64 (25000*m_0.1.1)))))) (Zb (idx y3 0) λxj=>
Zb (idx y3 1) λxk=>
Zb (idx y3 2) λxl=>
Zb (idx y3 3) λxm=>
Zb (idx y3 0) λxn=>
Zb (zdJ .i64 (w64 ((w64 ((w64 (xn*(w64 (x_1.1+(w64 (100*(w64 ((w64 ((w64 (x5-x6))-x7))-x8))))))))+(w64 (1000*m_0.1.1))))-1)) (w64 (1000*m_0.1.1))) λxo=>
Zb (idx y3 1) λxp=>
Zb (zdJ .i64 (w64 ((w64 (xp*(w64 (x_1.1+(w64 (100*(w64 ((w64 ((w64 (x5-x6))-x7))-x8))))))))*m_0.1.2.2.2.2.2.2.2.2.1)) (w64 (100000*m_0.1.1))) λxq=>
some ((((w64 (x_1.1+(w64 (100*(w64 ((w64 ((w64 (x5-x6))-x7))-x8)))))),(w64 (x_1.2.1+(w64 (x_1.1+(w64 (100*(w64 ((w64 ((w64 (x5-x6))-x7))-x8)))))))),()),((w64 ((w64 (200*xj))*(w64 (x_1.1+(w64 (100*(w64 ((w64 ((w64 (x5-x6))-x7))-x8)))))))),(w64 ((w64 (200*xk))*(w64 (x_1.1+(w64 (100*(w64 ((w64 ((w64 (x5-x6))-x7))-x8)))))))),(w64 ((w64 (200*xl))*(w64 (x_1.1+(w64 (100*(w64 ((w64 ((w64 (x5-x6))-x7))-x8)))))))),(w64 ((w64 (200*xm))*(w64 (x_1.1+(w64 (100*(w64 ((w64 ((w64 (x5-x6))-x7))-x8)))))))),(w64 ((w64 (10000*(w64 ((w64 ((w64 (x5-x6))-x7))-x8))))*(w64 ((w64 ((w64 (x5-x6))-x7))-x8)))),0,()),xo,xq,()),(decide ((w64 (x_1.1+(w64 (100*(w64 ((w64 ((w64 (x5-x6))-x7))-x8))))))<=(w64 (25000*m_0.1.1))))))
def zb9 (r_0:zau) (x_1:zb):Option (Int):=
Zb (zU r_0.1 x_1) λy2=>
Zb (zE r_0.2.2.1 (w64 ((w64 (y2-r_0.1.1.2.1))+1))) λy3=>
Zb (iter (σ:=(Int×Int)) (τ:=Int) (λs8=>
cond (decide (s8.2<(zl r_0.2.2.1))) (Zb (idx r_0.2.2.2.1 s8.2) λxa=>
Zb (idx r_0.2.2.1 s8.2) λxb=>
cond (decide (xb>=y2)) (some (.inr (min s8.1 xa))) (some (.inl ((min s8.1 xa),(w64 (s8.2+1)))))) (some (.inr s8.1))) big (r_0.1.1.2.2.1,y3.1)) λta=>
some ta
def zbp (r_0:zau) (x_1:zb) (stop_2:Int):Option (Bool):=
Zb (Zb (zU r_0.1 x_1) λya=>
cond (decide (ya<=stop_2)) (Zb (zba r_0.1 x_1) λyb=>
Zb (zb9 r_0 x_1) λyc=>
some (decide (yb<=yc))) (some false)) λc9=>
some c9
def zaV {σ τ:Type} (step:σ->(zb)->Option (σ⊕τ)) (s_:σ) (p_1:zb) (p_2:zan) (p_3:((zb)->Option (Int))):Option ((σ⊕τ)×zb):=
Zb (iter (σ:=(Int×(σ⊕τ)×Int×Int)) (τ:=((σ⊕τ)×Int×Int)⊕((σ⊕τ)×Int×Int)) (λsa=>
cond (decide (sa.1<36000)) (cond (sa.2.2.1==0) (some (.inr (.inr (sa.2.1,sa.2.2.1,sa.2.2.2)))) (Zb (p_3 (sa.2.2.1,sa.2.2.2,())) λyc=>
Zb (zax p_2 (sa.2.2.1,sa.2.2.2,()) (-4) yc) λya=>
cond (!ya.2) (some (.inr (.inr (sa.2.1,sa.2.2.1,sa.2.2.2)))) (Zb (goL sa.2.1) λsb=>
Zb (step sb ya.1.1) λyb=>
cond (!(yb).isLeft) (some (.inr (.inr (yb,ya.1.1.1,ya.1.1.2.1)))) (some (.inl ((w64 (sa.1+1)),yb,ya.1.1.1,ya.1.1.2.1)))))) (some (.inr (.inl (sa.2.1,sa.2.2.1,sa.2.2.2))))) big (0,(.inl s_),p_1.1,p_1.2.1)) λta=>
alt (λba=>some (ba.1,(ba.2.1,ba.2.2,()))) (λbb=>some (bb.1,(bb.2.1,bb.2.2,()))) ta
def zbK (m_0:zan) (x_1:zb) (slope_2:((zb)->Option (Int))):Option (zb×zan×((zb)->Option (Int))):=
some (x_1,m_0,slope_2)
def zbO (r_0:zau) (x_1:zb) (stop_2:Int):Option (Bool):=
Zb (zbp r_0 x_1 stop_2) λy2=>
cond (!y2) (some false) (Zb (zbK r_0.1 x_1 (λx=>zaJ r_0 x)) λy7=>
Zb (zaV (σ:=(Int×Int)) (τ:=(Int×Int)) (λsa x9=>
Zb (zbp r_0 x9 stop_2) λya=>
cond (!ya) (some (.inr (sa.1,sa.2))) (some (.inl (x9.1,x9.2.1)))) (x_1.1,x_1.2.1) y7.1 y7.2.1 y7.2.2) λta=>
alt (λba=>some (ba.1==0)) (λbb=>some false) ta.1)
def zaO (r_0:zau) (x_1:zb) (stop_2:Int):Option (za2×Bool):=
Zb (zaJ r_0 x_1) λy2=>
Zb (iter (σ:=(Bool×Int×Int×Int×Int×Int×Int×Int×Int×Int×Int×Int)) (τ:=(Bool×Int×Int×Int×Int×Int×Int×Int×Int×Int×Int)) (λsa=>
cond (decide (sa.2.1<9)) (Zb (zax r_0.1 x_1 (w64 (4-sa.2.1)) y2) λya=>
cond ya.2 (Zb (zbO r_0 ya.1.1 stop_2) λyb=>
cond yb (some (.inr (true,ya.1.1.1,ya.1.1.2.1,ya.1.2.1.1,ya.1.2.1.2.1,ya.1.2.1.2.2.1,ya.1.2.1.2.2.2.1,ya.1.2.1.2.2.2.2.1,ya.1.2.1.2.2.2.2.2.1,ya.1.2.2.1,ya.1.2.2.2.1))) (some (.inl (sa.1,(w64 (sa.2.1+1)),sa.2.2.1,sa.2.2.2.1,sa.2.2.2.2.1,sa.2.2.2.2.2.1,sa.2.2.2.2.2.2.1,sa.2.2.2.2.2.2.2.1,sa.2.2.2.2.2.2.2.2.1,sa.2.2.2.2.2.2.2.2.2.1,sa.2.2.2.2.2.2.2.2.2.2.1,sa.2.2.2.2.2.2.2.2.2.2.2)))) (some (.inl (sa.1,(w64 (sa.2.1+1)),sa.2.2.1,sa.2.2.2.1,sa.2.2.2.2.1,sa.2.2.2.2.2.1,sa.2.2.2.2.2.2.1,sa.2.2.2.2.2.2.2.1,sa.2.2.2.2.2.2.2.2.1,sa.2.2.2.2.2.2.2.2.2.1,sa.2.2.2.2.2.2.2.2.2.2.1,sa.2.2.2.2.2.2.2.2.2.2.2)))) (some (.inr (sa.1,sa.2.2.1,sa.2.2.2.1,sa.2.2.2.2.1,sa.2.2.2.2.2.1,sa.2.2.2.2.2.2.1,sa.2.2.2.2.2.2.2.1,sa.2.2.2.2.2.2.2.2.1,sa.2.2.2.2.2.2.2.2.2.1,sa.2.2.2.2.2.2.2.2.2.2.1,sa.2.2.2.2.2.2.2.2.2.2.2)))) big (false,0,0,0,0,0,0,0,0,0,0,0)) λta=>
some (((ta.2.1,ta.2.2.1,()),(ta.2.2.2.1,ta.2.2.2.2.1,ta.2.2.2.2.2.1,ta.2.2.2.2.2.2.1,ta.2.2.2.2.2.2.2.1,ta.2.2.2.2.2.2.2.2.1,()),ta.2.2.2.2.2.2.2.2.2.1,ta.2.2.2.2.2.2.2.2.2.2,()),ta.1)
def zcH (l_0:(List zX)):Option (zX):=
Zb (iter (σ:=(Int×Int×Int×Int×Int×Int×Int)) (τ:=(Int×Int×Int×Int×Int×Int)) (λs9=>
cond (decide (s9.1<(zl l_0))) (Zb (idx l_0 s9.1) λxa=>
some (.inl ((w64 (s9.1+1)),(w64 (s9.2.1+xa.1)),(w64 (s9.2.2.1+xa.2.1)),(w64 (s9.2.2.2.1+xa.2.2.1)),(w64 (s9.2.2.2.2.1+xa.2.2.2.1)),(w64 (s9.2.2.2.2.2.1+xa.2.2.2.2.1)),(w64 (s9.2.2.2.2.2.2+xa.2.2.2.2.2.1))))) (some (.inr (s9.2.1,s9.2.2.1,s9.2.2.2.1,s9.2.2.2.2.1,s9.2.2.2.2.2.1,s9.2.2.2.2.2.2)))) big (0,0,0,0,0,0,0)) λta=>
some (ta.1,ta.2.1,ta.2.2.1,ta.2.2.2.1,ta.2.2.2.2.1,ta.2.2.2.2.2,())
def zaA (r_0:zau) (x_1:zb) (stop_2:Int):Option (Leg×zb×Bool):=
Zb (iter (σ:=(Int×Int×Int×Int×Int×Int×Int×Int×Int×Int×Int×Int×Int×Int×Int×Int×Int×Int×Int×Int×Int×Int×Int×Int×Int)) (τ:=(Bool×Int×Int×Int×Int×Int×Int×Int×Int×Int×Int×Int×Int×Int×Int×Int×Int×Int×Int×Int×Int×Int×Int×Int×Int)) (λsa=>
Zb (zU r_0.1 (sa.2.2.2.2.2.2.2.2.2.2.2.2.2.2.1,sa.2.2.2.2.2.2.2.2.2.2.2.2.2.2.2.1,())) λye=>
cond (sa.2.2.2.2.2.2.2.2.2.2.2.2.2.2.1==0) (Zb (zP (w64 (stop_2-ye)) 0 1000) λyf=>
cond yf (some (.inr (true,ye,sa.2.2.2.2.2.2.2.2.2.2.2.2.2.2.1,sa.2.2.2.2.2.2.2.2.2.2.2.2.2.2.2.1,sa.2.1,ye,sa.2.2.2.1,sa.2.2.2.2.1,sa.2.2.2.2.2.1,sa.2.2.2.2.2.2.1,sa.2.2.2.2.2.2.2.1,sa.2.2.2.2.2.2.2.2.1,sa.2.2.2.2.2.2.2.2.2.1,sa.2.2.2.2.2.2.2.2.2.2.1,sa.2.1,sa.2.2.2.1,sa.2.2.2.2.1,sa.2.2.2.2.2.1,sa.2.2.2.2.2.2.1,sa.2.2.2.2.2.2.2.1,sa.2.2.2.2.2.2.2.2.1,sa.2.2.2.2.2.2.2.2.2.1,sa.2.2.2.2.2.2.2.2.2.2.1,sa.2.2.2.2.2.2.2.2.2.2.2.2.2.2.1,sa.2.2.2.2.2.2.2.2.2.2.2.2.2.2.2.1))) (cond (sa.1==36000) (some (.inr (false,sa.2.2.1,sa.2.2.2.2.2.2.2.2.2.2.2.2.2.2.1,sa.2.2.2.2.2.2.2.2.2.2.2.2.2.2.2.1,sa.2.1,sa.2.2.1,sa.2.2.2.1,sa.2.2.2.2.1,sa.2.2.2.2.2.1,sa.2.2.2.2.2.2.1,sa.2.2.2.2.2.2.2.1,sa.2.2.2.2.2.2.2.2.1,sa.2.2.2.2.2.2.2.2.2.1,sa.2.2.2.2.2.2.2.2.2.2.1,sa.2.1,sa.2.2.2.1,sa.2.2.2.2.1,sa.2.2.2.2.2.1,sa.2.2.2.2.2.2.1,sa.2.2.2.2.2.2.2.1,sa.2.2.2.2.2.2.2.2.1,sa.2.2.2.2.2.2.2.2.2.1,sa.2.2.2.2.2.2.2.2.2.2.1,sa.2.2.2.2.2.2.2.2.2.2.2.2.2.2.1,sa.2.2.2.2.2.2.2.2.2.2.2.2.2.2.2.1))) (Zb (zaO r_0 (sa.2.2.2.2.2.2.2.2.2.2.2.2.2.2.1,sa.2.2.2.2.2.2.2.2.2.2.2.2.2.2.2.1,()) stop_2) λya=>
cond (!ya.2) (some (.inr (false,sa.2.2.1,sa.2.2.2.2.2.2.2.2.2.2.2.2.2.2.1,sa.2.2.2.2.2.2.2.2.2.2.2.2.2.2.2.1,sa.2.1,sa.2.2.1,sa.2.2.2.1,sa.2.2.2.2.1,sa.2.2.2.2.2.1,sa.2.2.2.2.2.2.1,sa.2.2.2.2.2.2.2.1,sa.2.2.2.2.2.2.2.2.1,sa.2.2.2.2.2.2.2.2.2.1,sa.2.2.2.2.2.2.2.2.2.2.1,sa.2.1,sa.2.2.2.1,sa.2.2.2.2.1,sa.2.2.2.2.2.1,sa.2.2.2.2.2.2.1,sa.2.2.2.2.2.2.2.1,sa.2.2.2.2.2.2.2.2.1,sa.2.2.2.2.2.2.2.2.2.1,sa.2.2.2.2.2.2.2.2.2.2.1,sa.2.2.2.2.2.2.2.2.2.2.2.2.2.2.1,sa.2.2.2.2.2.2.2.2.2.2.2.2.2.2.2.1))) (cond (decide (ya.1.1.2.1>10000000000000000)) (some (.inr (false,sa.2.2.1,sa.2.2.2.2.2.2.2.2.2.2.2.2.2.2.1,sa.2.2.2.2.2.2.2.2.2.2.2.2.2.2.2.1,sa.2.1,sa.2.2.1,sa.2.2.2.1,sa.2.2.2.2.1,sa.2.2.2.2.2.1,sa.2.2.2.2.2.2.1,sa.2.2.2.2.2.2.2.1,sa.2.2.2.2.2.2.2.2.1,sa.2.2.2.2.2.2.2.2.2.1,sa.2.2.2.2.2.2.2.2.2.2.1,sa.2.1,sa.2.2.2.1,sa.2.2.2.2.1,sa.2.2.2.2.2.1,sa.2.2.2.2.2.2.1,sa.2.2.2.2.2.2.2.1,sa.2.2.2.2.2.2.2.2.1,sa.2.2.2.2.2.2.2.2.2.1,sa.2.2.2.2.2.2.2.2.2.2.1,sa.2.2.2.2.2.2.2.2.2.2.2.2.2.2.1,sa.2.2.2.2.2.2.2.2.2.2.2.2.2.2.2.1))) (Zb (zcH ([(sa.2.2.2.1,sa.2.2.2.2.1,sa.2.2.2.2.2.1,sa.2.2.2.2.2.2.1,sa.2.2.2.2.2.2.2.1,sa.2.2.2.2.2.2.2.2.1,()),ya.1.2.1])) λyc=>
some (.inl ((w64 (sa.1+1)),(w64 (sa.2.1+100)),sa.2.2.1,yc.1,yc.2.1,yc.2.2.1,yc.2.2.2.1,yc.2.2.2.2.1,yc.2.2.2.2.2.1,(max sa.2.2.2.2.2.2.2.2.2.1 ya.1.2.2.1),(max sa.2.2.2.2.2.2.2.2.2.2.1 ya.1.2.2.2.1),sa.2.2.2.2.2.2.2.2.2.2.2.1,sa.2.2.2.2.2.2.2.2.2.2.2.2.1,sa.2.2.2.2.2.2.2.2.2.2.2.2.2.1,ya.1.1.1,ya.1.1.2.1,sa.2.2.2.2.2.2.2.2.2.2.2.2.2.2.2.2.1,sa.2.2.2.2.2.2.2.2.2.2.2.2.2.2.2.2.2.1,sa.2.2.2.2.2.2.2.2.2.2.2.2.2.2.2.2.2.2.1,sa.2.2.2.2.2.2.2.2.2.2.2.2.2.2.2.2.2.2.2.1,sa.2.2.2.2.2.2.2.2.2.2.2.2.2.2.2.2.2.2.2.2.1,sa.2.2.2.2.2.2.2.2.2.2.2.2.2.2.2.2.2.2.2.2.2.1,sa.2.2.2.2.2.2.2.2.2.2.2.2.2.2.2.2.2.2.2.2.2.2.1,sa.2.2.2.2.2.2.2.2.2.2.2.2.2.2.2.2.2.2.2.2.2.2.2.1,sa.2.2.2.2.2.2.2.2.2.2.2.2.2.2.2.2.2.2.2.2.2.2.2.2))))))) (cond (sa.1==36000) (some (.inr (false,sa.2.2.1,sa.2.2.2.2.2.2.2.2.2.2.2.2.2.2.1,sa.2.2.2.2.2.2.2.2.2.2.2.2.2.2.2.1,sa.2.1,sa.2.2.1,sa.2.2.2.1,sa.2.2.2.2.1,sa.2.2.2.2.2.1,sa.2.2.2.2.2.2.1,sa.2.2.2.2.2.2.2.1,sa.2.2.2.2.2.2.2.2.1,sa.2.2.2.2.2.2.2.2.2.1,sa.2.2.2.2.2.2.2.2.2.2.1,sa.2.1,sa.2.2.2.1,sa.2.2.2.2.1,sa.2.2.2.2.2.1,sa.2.2.2.2.2.2.1,sa.2.2.2.2.2.2.2.1,sa.2.2.2.2.2.2.2.2.1,sa.2.2.2.2.2.2.2.2.2.1,sa.2.2.2.2.2.2.2.2.2.2.1,sa.2.2.2.2.2.2.2.2.2.2.2.2.2.2.1,sa.2.2.2.2.2.2.2.2.2.2.2.2.2.2.2.1))) (Zb (zaO r_0 (sa.2.2.2.2.2.2.2.2.2.2.2.2.2.2.1,sa.2.2.2.2.2.2.2.2.2.2.2.2.2.2.2.1,()) stop_2) λyb=>
cond (!yb.2) (some (.inr (false,sa.2.2.1,sa.2.2.2.2.2.2.2.2.2.2.2.2.2.2.1,sa.2.2.2.2.2.2.2.2.2.2.2.2.2.2.2.1,sa.2.1,sa.2.2.1,sa.2.2.2.1,sa.2.2.2.2.1,sa.2.2.2.2.2.1,sa.2.2.2.2.2.2.1,sa.2.2.2.2.2.2.2.1,sa.2.2.2.2.2.2.2.2.1,sa.2.2.2.2.2.2.2.2.2.1,sa.2.2.2.2.2.2.2.2.2.2.1,sa.2.1,sa.2.2.2.1,sa.2.2.2.2.1,sa.2.2.2.2.2.1,sa.2.2.2.2.2.2.1,sa.2.2.2.2.2.2.2.1,sa.2.2.2.2.2.2.2.2.1,sa.2.2.2.2.2.2.2.2.2.1,sa.2.2.2.2.2.2.2.2.2.2.1,sa.2.2.2.2.2.2.2.2.2.2.2.2.2.2.1,sa.2.2.2.2.2.2.2.2.2.2.2.2.2.2.2.1))) (cond (decide (yb.1.1.2.1>10000000000000000)) (some (.inr (false,sa.2.2.1,sa.2.2.2.2.2.2.2.2.2.2.2.2.2.2.1,sa.2.2.2.2.2.2.2.2.2.2.2.2.2.2.2.1,sa.2.1,sa.2.2.1,sa.2.2.2.1,sa.2.2.2.2.1,sa.2.2.2.2.2.1,sa.2.2.2.2.2.2.1,sa.2.2.2.2.2.2.2.1,sa.2.2.2.2.2.2.2.2.1,sa.2.2.2.2.2.2.2.2.2.1,sa.2.2.2.2.2.2.2.2.2.2.1,sa.2.1,sa.2.2.2.1,sa.2.2.2.2.1,sa.2.2.2.2.2.1,sa.2.2.2.2.2.2.1,sa.2.2.2.2.2.2.2.1,sa.2.2.2.2.2.2.2.2.1,sa.2.2.2.2.2.2.2.2.2.1,sa.2.2.2.2.2.2.2.2.2.2.1,sa.2.2.2.2.2.2.2.2.2.2.2.2.2.2.1,sa.2.2.2.2.2.2.2.2.2.2.2.2.2.2.2.1))) (Zb (zcH ([(sa.2.2.2.1,sa.2.2.2.2.1,sa.2.2.2.2.2.1,sa.2.2.2.2.2.2.1,sa.2.2.2.2.2.2.2.1,sa.2.2.2.2.2.2.2.2.1,()),yb.1.2.1])) λyd=>
some (.inl ((w64 (sa.1+1)),(w64 (sa.2.1+100)),sa.2.2.1,yd.1,yd.2.1,yd.2.2.1,yd.2.2.2.1,yd.2.2.2.2.1,yd.2.2.2.2.2.1,(max sa.2.2.2.2.2.2.2.2.2.1 yb.1.2.2.1),(max sa.2.2.2.2.2.2.2.2.2.2.1 yb.1.2.2.2.1),sa.2.2.2.2.2.2.2.2.2.2.2.1,sa.2.2.2.2.2.2.2.2.2.2.2.2.1,sa.2.2.2.2.2.2.2.2.2.2.2.2.2.1,yb.1.1.1,yb.1.1.2.1,sa.2.2.2.2.2.2.2.2.2.2.2.2.2.2.2.2.1,sa.2.2.2.2.2.2.2.2.2.2.2.2.2.2.2.2.2.1,sa.2.2.2.2.2.2.2.2.2.2.2.2.2.2.2.2.2.2.1,sa.2.2.2.2.2.2.2.2.2.2.2.2.2.2.2.2.2.2.2.1,sa.2.2.2.2.2.2.2.2.2.2.2.2.2.2.2.2.2.2.2.2.1,sa.2.2.2.2.2.2.2.2.2.2.2.2.2.2.2.2.2.2.2.2.2.1,sa.2.2.2.2.2.2.2.2.2.2.2.2.2.2.2.2.2.2.2.2.2.2.1,sa.2.2.2.2.2.2.2.2.2.2.2.2.2.2.2.2.2.2.2.2.2.2.2.1,sa.2.2.2.2.2.2.2.2.2.2.2.2.2.2.2.2.2.2.2.2.2.2.2.2))))))) big (0,0,0,0,0,0,0,0,0,0,0,0,0,0,x_1.1,x_1.2.1,0,0,0,0,0,0,0,0,0)) λta=>
some ((ta.2.2.2.2.1,ta.2.2.2.2.2.1,(ta.2.2.2.2.2.2.1,ta.2.2.2.2.2.2.2.1,ta.2.2.2.2.2.2.2.2.1,ta.2.2.2.2.2.2.2.2.2.1,ta.2.2.2.2.2.2.2.2.2.2.1,ta.2.2.2.2.2.2.2.2.2.2.2.1,()),ta.2.2.2.2.2.2.2.2.2.2.2.2.1,ta.2.2.2.2.2.2.2.2.2.2.2.2.2.1,()),(ta.2.2.1,ta.2.2.2.1,()),ta.1)
def zbM (p_0:Plan) (way_1:(List zR)) (t_2:Train) (state_3:Int) (stops_4:(List Int)):Option ((List Leg)×Int):=
Zb (zdE p_0 way_1 t_2 state_3 stops_4) λy1=>
cond (!y1.2) (some ([],2)) (Zb (idx stops_4 0) λx5=>
Zb (slO stops_4 1 (zl stops_4)) λx7=>
Zb (iter (σ:=((List Leg)×Int×Int×Int)) (τ:=((List Leg)×Int×Int)⊕((List Leg)×Int×Int×Int)) (λsa=>
cond (decide (sa.2.1<(zl x7))) (Zb (idx x7 sa.2.1) λxa=>
Zb y1.1 λpa=>
Zb (zaA pa (sa.2.2.1,sa.2.2.2,()) xa) λya=>
cond (!ya.2.2) (some (.inr (.inr ([],4,sa.2.2.1,sa.2.2.2)))) (cond (decide (sa.2.2.2>10000000000000000)) (some (.inr (.inr ([],4,sa.2.2.1,sa.2.2.2)))) (Zb (zcL 80 sa.1 ([ya.1])) λxb=>
some (.inl (xb,(w64 (sa.2.1+1)),ya.2.1.1,ya.2.1.2.1))))) (some (.inr (.inl (sa.1,sa.2.2.1,sa.2.2.2))))) big ([],0,0,(w64 ((w64 (10*t_2.1))*x5)))) λta=>
alt (λbb=>some (bb.1,0)) (λba=>some (ba.1,ba.2.1)) ta)
def zaP (l_0:(List Leg)) (field_1:((Leg)->Option (Int))):Option (List Int):=
Zb (iter (σ:=((List Int)×Int)) (τ:=(List Int)) (λs7=>
cond (decide (s7.2<(zl l_0))) (Zb (idx l_0 s7.2) λxa=>
Zb (field_1 xa) λya=>
Zb (zcL 8 s7.1 ([ya])) λxb=>
some (.inl (xb,(w64 (s7.2+1))))) (some (.inr s7.1))) big ([],0)) λta=>
some ta
def zeE (x_0:Leg):Option (Int):=
some x_0.1
def zcI (p_0:Plan) (way_1:(List zR)) (t_2:Train) (state_3:Int) (stops_4:(List Int)):Option ((List Int)×Int):=
Zb (zbM p_0 way_1 t_2 state_3 stops_4) λy1=>
cond (y1.2 !=0) (some ([],y1.2)) (Zb (zaP y1.1 (λx=>zeE x)) λy4=>
some (y4,0))
def za7 (p_0:Plan) (l_1:Line) (c_2:Course):Option ((List Int)×(List Int)×Bool):=
Zb (zbN p_0 c_2.1) λy1=>
Zb (cond (y1.2 !=0) (some true) (Zb (zae (zl c_2.2.1) 2 60) λyb=>
cond (!yb) (some true) (cond ((zl c_2.2.2.1)!=(zl c_2.2.1)) (some true) (Zb (idx c_2.2.2.1 0) λxd=>
cond (xd !=0) (some true) (Zb (idx c_2.2.2.1 (w64 ((zl c_2.2.1)-1))) λxe=>
some (xe !=0)))))) λc9=>
cond c9 (some ([],[],false)) (Zb (iter (σ:=Int) (τ:=Unit⊕((List Int)×(List Int)×Bool)) (λsb=>
cond (decide (sb<(zl c_2.2.1))) (Zb (idx c_2.2.1 sb) λxa=>
Zb (zae xa 1 y1.1) λyc=>
cond (!yc) (some (.inr (.inr ([],[],false)))) (cond (decide (sb>0)) (Zb (idx c_2.2.1 (w64 (sb-1))) λxf=>
cond (decide (xa<=xf)) (some (.inr (.inr ([],[],false)))) (Zb (idx c_2.2.2.1 sb) λxg=>
Zb (zae xg 0 600) λyd=>
cond (!yd) (some (.inr (.inr ([],[],false)))) (some (.inl (w64 (sb+1)))))) (Zb (idx c_2.2.2.1 sb) λxh=>
Zb (zae xh 0 600) λye=>
cond (!ye) (some (.inr (.inr ([],[],false)))) (some (.inl (w64 (sb+1))))))) (some (.inr (.inl ())))) big 0) λtb=>
alt (λbb=>Zb (zcI p_0 c_2.1 l_1.2.2.1 l_1.2.2.2.1 c_2.2.1) λya=>
Zb (cond (ya.2 !=0) (some true) (some ((zl ya.1)!=(w64 ((zl c_2.2.1)-1))))) λca=>
cond ca (some ([],[],false)) (Zb (mkO 8 (zl c_2.2.1) (0:Int)) λxi=>
Zb (mkO 8 (zl c_2.2.1) (0:Int)) λxj=>
Zb (iter (σ:=(Int×(List Int)×(List Int))) (τ:=((List Int)×(List Int))) (λsa=>
cond (decide (sa.1<(zl ya.1))) (Zb (idx ya.1 sa.1) λxk=>
Zb (zdJ .i64 (w64 (xk+999)) 1000) λxb=>
Zb (idx sa.2.2 (w64 (sa.1+1))) λxp=>
Zb (idx sa.2.1 sa.1) λxl=>
Zb (idx ((sa.2.2).set (Int.toNat (w64 (sa.1+1))) (max 1 xb)) (w64 (sa.1+1))) λxm=>
Zb (idx c_2.2.2.1 (w64 (sa.1+1))) λxn=>
Zb (idx sa.2.1 (w64 (sa.1+1))) λxq=>
some (.inl ((w64 (sa.1+1)),(sa.2.1).set (Int.toNat (w64 (sa.1+1))) (w64 ((w64 (xl+xm))+xn)),(sa.2.2).set (Int.toNat (w64 (sa.1+1))) (max 1 xb)))) (some (.inr (sa.2.1,sa.2.2)))) big (0,xj,xi)) λta=>
Zb (idx ta.1 (w64 ((zl c_2.2.1)-1))) λxo=>
some (ta.2,ta.1,(decide (xo<=50000))))) (λba=>some (ba.1,ba.2.1,ba.2.2)) tb)
def zci (p_0:Plan) (l_1:Line):Option ((Option zO)×Bool):=
Zb (Zb (zds p_0) λy5=>
cond (y5 !=0) (some true) (Zb (zae l_1.2.2.2.2.1 0 3600) λy7=>
some (!y7))) λc4=>
cond c4 (some ((none:Option zO),false)) (Zb (zdr l_1) λyb=>
Zb (iter (σ:=(Int×(List Int)×(List Int)×(List Int)×(List Int))) (τ:=((List Int)×(List Int)×(List Int)×(List Int))⊕((Option zO)×Bool×(List Int)×(List Int)×(List Int)×(List Int))) (λsa=>
cond (decide (sa.1<2)) (Zb (idx yb sa.1) λxa=>
Zb (za7 p_0 l_1 xa) λya=>
Zb (idx [(),()] sa.1) λxb=>
Zb (idx [(),()] sa.1) λxd=>
cond (!ya.2.2) (some (.inr (.inr ((none:Option zO),false,cond (sa.1==0) ya.1 sa.2.1,cond (sa.1==1) ya.1 sa.2.2.1,cond (sa.1==0) ya.2.1 sa.2.2.2.1,cond (sa.1==1) ya.2.1 sa.2.2.2.2)))) (some (.inl ((w64 (sa.1+1)),cond (sa.1==0) ya.1 sa.2.1,cond (sa.1==1) ya.1 sa.2.2.1,cond (sa.1==0) ya.2.1 sa.2.2.2.1,cond (sa.1==1) ya.2.1 sa.2.2.2.2)))) (some (.inr (.inl (sa.2.1,sa.2.2.1,sa.2.2.2.1,sa.2.2.2.2))))) big (0,[],[],[],[])) λta=>
alt (λba=>some ((some (((l_1.1.1,l_1.1.2.1,l_1.1.2.2.1,()),(l_1.2.1.1,l_1.2.1.2.1,l_1.2.1.2.2.1,()),(l_1.2.2.1.1,l_1.2.2.1.2.1,l_1.2.2.1.2.2.1,l_1.2.2.1.2.2.2.1,l_1.2.2.1.2.2.2.2.1,l_1.2.2.1.2.2.2.2.2.1,l_1.2.2.1.2.2.2.2.2.2.1,l_1.2.2.1.2.2.2.2.2.2.2.1,l_1.2.2.1.2.2.2.2.2.2.2.2.1,l_1.2.2.1.2.2.2.2.2.2.2.2.2.1,()),l_1.2.2.2.1,l_1.2.2.2.2.1,()),[ba.1,ba.2.1],[ba.2.2.1,ba.2.2.2],())),true)) (λbb=>some (bb.1,bb.2.1)) ta)
def zde (p_0:Plan) (l_1:(List Line)):Option ((List zO)×Bool):=
Zb (zae (zl l_1) 1 20) λy1=>
cond (!y1) (some ([],false)) (Zb (iter (σ:=((List zO)×Int)) (τ:=(List zO)⊕((List zO)×Bool)) (λsa=>
cond (decide (sa.2<(zl l_1))) (Zb (idx l_1 sa.2) λxa=>
Zb (zci p_0 xa) λya=>
cond (!ya.2) (some (.inr (.inr ([],false)))) (Zb ya.1 λpa=>
Zb (zcL 8 sa.1 ([pa])) λxb=>
some (.inl (xb,(w64 (sa.2+1)))))) (some (.inr (.inl sa.1)))) big ([],0)) λta=>
alt (λbb=>some (bb,true)) (λba=>some (ba.1,ba.2)) ta)
def zcx (p_0:Plan) (s_1:Service):Option ((List zO)×Bool):=
Zb (cond ((zl s_1.2.1)!=(zl s_1.1)) (some true) (some ((zl s_1.2.2.1)!=(zl s_1.1)))) λc2=>
cond c2 (some ([],false)) (Zb (iter (σ:=Int) (τ:=Unit⊕((List zO)×Bool)) (λsa=>
cond (decide (sa<(zl s_1.2.1))) (Zb (idx s_1.2.1 sa) λxa=>
Zb (zae xa 30 7200) λyb=>
cond (!yb) (some (.inr (.inr ([],false)))) (Zb (idx s_1.2.2.1 sa) λxb=>
Zb (zae xb 0 (w64 (xa-1))) λyc=>
cond (!yc) (some (.inr (.inr ([],false)))) (some (.inl (w64 (sa+1)))))) (some (.inr (.inl ())))) big 0) λta=>
alt (λbb=>Zb (zde p_0 s_1.1) λya=>
some (ya.1,ya.2)) (λba=>some (ba.1,ba.2)) ta)
def zeg (p_0:Plan) (s_1:Service):Option (Int):=
Zb (zcx p_0 s_1) λy1=>
cond (!y1.2) (some 2) (some 0)
def zfZ (home_0:Bool):Option (Int):=
cond home_0 (some 1) (some 0)
def zbP (p_0:Plan) (l_1:Line) (home_2:Bool):Option ((List Int)×Int):=
Zb (zci p_0 l_1) λy1=>
cond (!y1.2) (some ([],2)) (Zb (zfZ home_2) λy6=>
Zb y1.1 λp7=>
Zb (idx p7.2.2.1 y6) λx8=>
some (x8,0))
def zeT (p_0:Plan) (s_1:Service) (trips_2:(List Trip)):Option ((List Task)×Int):=
Zb (zeg p_0 s_1) λy1=>
cond (y1 !=0) (some ([],2)) (Zb (iter (σ:=Int) (τ:=Unit⊕((List Task)×Int)) (λsb=>
cond (decide (sb<(zl trips_2))) (Zb (idx trips_2 sb) λxd=>
Zb (zaI xd.1 0 (w64 ((zl s_1.1)-1))) λyb=>
cond (!yb) (some (.inr (.inr ([],2)))) (Zb (zaI xd.2.2.2.1 0 200000) λyc=>
cond (!yc) (some (.inr (.inr ([],2)))) (cond (decide (sb>0)) (Zb (idx trips_2 (w64 (sb-1))) λxe=>
cond (decide (xd.2.2.2.1<xe.2.2.2.1)) (some (.inr (.inr ([],2)))) (some (.inl (w64 (sb+1))))) (some (.inl (w64 (sb+1))))))) (some (.inr (.inl ())))) big 0) λta=>
alt (λbd=>cond (decide ((zl trips_2)>60)) (some ([],3)) (Zb (iter (σ:=((List Task)×Int)) (τ:=(List Task)⊕((List Task)×Int)) (λsa=>
cond (decide (sa.2<(zl trips_2))) (Zb (idx trips_2 sa.2) λxa=>
Zb (idx s_1.1 xa.1) λxf=>
Zb (zbP p_0 xf xa.2.1) λya=>
cond (ya.2 !=0) (some (.inr (.inr ([],2)))) (Zb (idx ya.1 (w64 ((zl ya.1)-1))) λxb=>
cond xa.2.1 (cond (decide ((w64 (xa.2.2.2.1+xb))>200000)) (some (.inr (.inr ([],3)))) (Zb (zcL 32 sa.1 ([((w64 ((w64 (2*xa.1))+1)),(w64 (2*xa.1)),xa.2.2.2.1,(w64 (xa.2.2.2.1+xb)),())])) λxg=>
some (.inl (xg,(w64 (sa.2+1)))))) (cond (decide ((w64 (xa.2.2.2.1+xb))>200000)) (some (.inr (.inr ([],3)))) (Zb (zcL 32 sa.1 ([(((w64 (2*xa.1)),(w64 ((w64 (2*xa.1))+1)),xa.2.2.2.1,(w64 (xa.2.2.2.1+xb)),()):Task)])) λxh=>
some (.inl (xh,(w64 (sa.2+1)))))))) (some (.inr (.inl sa.1)))) big ([],0)) λtb=>
alt (λbc=>some (bc,0)) (λba=>some (ba.1,ba.2)) tb)) (λbb=>some (bb.1,bb.2)) ta)
def z8 (n_0:Int) (low_1:Int) (high_2:Int):Option (Bool):=
Zb (cond (decide (n_0>=low_1)) (some (decide (n_0<=high_2))) (some false)) λc2=>
some c2
def zbd (s_0:Spot):Option (Bool):=
Zb (Zb (z8 s_0.1 (-10000000) 10000000) λy5=>
cond y5 (Zb (z8 s_0.2.1 (-10000000) 10000000) λy7=>
some y7) (some false)) λc4=>
some c4
def zaD (k_0:Int):Option (Int):=
cond (k_0==1) (some 1) (cond (k_0==2) (some 2) (cond (k_0==3) (some 4) (cond (k_0==4) (cond (k_0==4) (some 3) (some 0)) (cond (k_0==5) (cond (k_0==5) (some 3) (some 0)) (cond (k_0==6) (some 3) (some 0))))))
def zdf (p_0:Plan) (rail_1:Int):Option (List Spot):=
Zb (idx p_0.2.1 rail_1) λx1=>
Zb (idx p_0.1 x1.1) λx3=>
Zb (zcL 16 ([x3.1]) x1.2.2.1) λx5=>
Zb (idx p_0.1 x1.2.1) λx7=>
Zb (zcL 16 x5 ([x7.1])) λx8=>
some x8
def zeU (n_0:Int):Option (Int):=
Zb (iter (σ:=(Int×Int)) (τ:=Int) (λs4=>
cond (decide ((w64 (s4.2-s4.1))>1)) (Zb (zdJ .i64 (w64 (s4.1+s4.2)) 2) λx7=>
cond (decide ((w64 (x7*x7))<=n_0)) (some (.inl (x7,s4.2))) (some (.inl (s4.1,x7)))) (some (.inr s4.1))) big (0,30000000)) λt9=>
some t9
def zdg (a_0:Spot) (b_1:Spot):Option (Int):=
Zb (zeU (w64 ((w64 ((w64 (a_0.1-b_1.1))*(w64 (a_0.1-b_1.1))))+(w64 ((w64 (a_0.2.1-b_1.2.1))*(w64 (a_0.2.1-b_1.2.1))))))) λy1=>
some y1
def zfn (p_0:Plan) (e_1:zn):Option (Int):=
cond e_1.2.1 (Zb (idx p_0.2.1 e_1.1) λx2=>
some x2.2.1) (Zb (idx p_0.2.1 e_1.1) λx3=>
some x3.1)
def zdt (p_0:Plan):Option (Bool):=
Zb (Zb (z8 (zl p_0.1) 1 300) λy5=>
cond (!y5) (some true) (Zb (z8 (zl p_0.2.1) 1 400) λy7=>
some (!y7))) λc4=>
cond c4 (some false) (Zb (iter (σ:=Int) (τ:=Unit⊕(Bool)) (λsc=>
cond (decide (sc<(zl p_0.1))) (Zb (idx p_0.1 sc) λxa=>
cond (xa.2.1==5) (Zb (z8 xa.2.2.2.1 1 2) λyb=>
Zb (zbd xa.1) λyc=>
cond (!yc) (some (.inr (.inr false))) (Zb (zaD xa.2.1) λyd=>
cond (yd==0) (some (.inr (.inr false))) (Zb (zaD xa.2.1) λye=>
cond ((zl xa.2.2.1)!=ye) (some (.inr (.inr false))) (cond (!yb) (some (.inr (.inr false))) (some (.inl (w64 (sc+1)))))))) (cond (xa.2.1==6) (Zb (z8 xa.2.2.2.1 1 2) λyf=>
Zb (zbd xa.1) λyg=>
cond (!yg) (some (.inr (.inr false))) (Zb (zaD xa.2.1) λyh=>
cond (yh==0) (some (.inr (.inr false))) (Zb (zaD xa.2.1) λyi=>
cond ((zl xa.2.2.1)!=yi) (some (.inr (.inr false))) (cond (!yf) (some (.inr (.inr false))) (some (.inl (w64 (sc+1)))))))) (Zb (zbd xa.1) λyj=>
cond (!yj) (some (.inr (.inr false))) (Zb (zaD xa.2.1) λyk=>
cond (yk==0) (some (.inr (.inr false))) (Zb (zaD xa.2.1) λyl=>
cond ((zl xa.2.2.1)!=yl) (some (.inr (.inr false))) (cond (!(xa.2.2.2.1==0)) (some (.inr (.inr false))) (some (.inl (w64 (sc+1)))))))))) (some (.inr (.inl ())))) big 0) λta=>
alt (λbj=>Zb (iter (σ:=Int) (τ:=Unit⊕(Bool)) (λsd=>
cond (decide (sd<(zl p_0.2.1))) (Zb (idx p_0.2.1 sd) λxb=>
Zb (z8 xb.1 0 (w64 ((zl p_0.1)-1))) λym=>
cond (!ym) (some (.inr (.inr false))) (Zb (z8 xb.2.1 0 (w64 ((zl p_0.1)-1))) λyn=>
cond (!yn) (some (.inr (.inr false))) (cond (decide ((zl xb.2.2.1)>30)) (some (.inr (.inr false))) (Zb (z8 xb.2.2.2.1 1 50000) λyo=>
cond (!yo) (some (.inr (.inr false))) (Zb (z8 xb.2.2.2.2.1 (-120) 120) λyp=>
cond (!yp) (some (.inr (.inr false))) (Zb (iter (σ:=Int) (τ:=Unit⊕(Bool)) (λsf=>
cond (decide (sf<(zl xb.2.2.1))) (Zb (idx xb.2.2.1 sf) λxe=>
Zb (zbd xe) λyq=>
cond (!yq) (some (.inr (.inr false))) (some (.inl (w64 (sf+1))))) (some (.inr (.inl ())))) big 0) λtb=>
alt (λbk=>Zb (zdf p_0 sd) λya=>
Zb (iter (σ:=Int) (τ:=Unit⊕(Bool)) (λse=>
cond (decide (se<(zl ya))) (Zb (idx ya (w64 (se-1))) λxf=>
Zb (idx ya se) λxg=>
Zb (zdg xf xg) λyr=>
Zb (z8 yr 1 1000000) λys=>
cond (!ys) (some (.inr (.inr false))) (some (.inl (w64 (se+1))))) (some (.inr (.inl ())))) big 1) λtc=>
alt (λbl=>some (.inl (w64 (sd+1)))) (λba=>some (.inr (.inr ba))) tc) (λbb=>some (.inr (.inr bb))) tb)))))) (some (.inr (.inl ())))) big 0) λtd=>
alt (λbm=>Zb (iter (σ:=((List zn)×Int)) (τ:=(List zn)⊕(Bool)) (λsa=>
cond (decide (sa.2<(zl p_0.1))) (Zb (iter (σ:=((List zn)×Int)) (τ:=(List zn)⊕(Bool)) (λsb=>
Zb (idx p_0.1 sa.2) λxh=>
cond (decide (sb.2<(zl xh.2.2.1))) (Zb (idx p_0.1 sa.2) λxi=>
Zb (idx xi.2.2.1 sb.2) λxd=>
Zb (z8 xd.1 0 (w64 ((zl p_0.2.1)-1))) λyt=>
cond (!yt) (some (.inr (.inr false))) (Zb (zfn p_0 xd) λyu=>
cond (yu !=sa.2) (some (.inr (.inr false))) (Zb (iter (σ:=Int) (τ:=Unit⊕(Bool)) (λsg=>
cond (decide (sg<(zl sb.1))) (Zb (idx sb.1 sg) λxj=>
cond (xj==xd) (some (.inr (.inr false))) (some (.inl (w64 (sg+1))))) (some (.inr (.inl ())))) big 0) λte=>
alt (λbn=>Zb (zcL 16 sb.1 ([xd])) λxk=>
some (.inl (xk,(w64 (sb.2+1))))) (λbc=>some (.inr (.inr bc))) te))) (some (.inr (.inl sb.1)))) big (sa.1,0)) λtf=>
alt (λbd=>some (.inl (bd,(w64 (sa.2+1))))) (λbe=>some (.inr (.inr be))) tf) (some (.inr (.inl sa.1)))) big ([],0)) λtg=>
alt (λbf=>some ((zl bf)==(w64 (2*(zl p_0.2.1))))) (λbg=>some bg) tg) (λbh=>some bh) td) (λbi=>some bi) ta)
def zcT (n_0:Int) (low_1:Int) (high_2:Int):Option (Bool):=
Zb (cond (decide (n_0>=low_1)) (some (decide (n_0<=high_2))) (some false)) λc2=>
some c2
def zeF (l_0:Line) (home_1:Bool):Option (Course):=
cond home_1 (some l_0.2.1) (some l_0.1)
def zeV (p_0:Plan) (m_1:zR):Option (Bool):=
Zb (z8 m_1.1 0 (w64 ((zl p_0.2.1)-1))) λy1=>
some y1
def zfC (m_0:zR):Option (zn):=
some ((m_0.1,(!m_0.2.1),()):zn)
def zdu (n_0:zcM) (e_1:zn):Option (Int):=
Zb (iter (σ:=Int) (τ:=Unit⊕(Int)) (λs5=>
cond (decide (s5<(zl n_0.2.2.1))) (Zb (idx n_0.2.2.1 s5) λx9=>
cond (x9==e_1) (some (.inr (.inr s5))) (some (.inl (w64 (s5+1))))) (some (.inr (.inl ())))) big 0) λta=>
alt (λbb=>some (-1)) (λba=>some ba) ta
def zhx (m_0:zR):Option (zn):=
some ((m_0.1,m_0.2.1,()):zn)
def zeW (n_0:zcM) (a_1:Int) (b_2:Int):Option (Bool):=
cond (n_0.2.1==2) (some (a_1 !=b_2)) (cond (n_0.2.1==3) (Zb (cond (a_1 !=b_2) (Zb (zue (w64 (a_1+b_2)) 2) λx7=>
some (x7==0)) (some false)) λc5=>
some c5) (cond (n_0.2.1==4) (Zb (cond (a_1==0) (cond (decide (b_2>0)) (some true) (cond (decide (a_1>0)) (some (b_2==0)) (some false))) (cond (decide (a_1>0)) (some (b_2==0)) (some false))) λca=>
some ca) (cond (n_0.2.1==5) (Zb (cond (a_1==0) (cond (b_2==n_0.2.2.2.1) (some true) (cond (decide (a_1>0)) (some (b_2==0)) (some false))) (cond (decide (a_1>0)) (some (b_2==0)) (some false))) λcc=>
some cc) (cond (n_0.2.1==6) (Zb (cond (a_1==0) (cond (b_2==n_0.2.2.2.1) (some true) (cond (a_1==n_0.2.2.2.1) (some (b_2==0)) (some false))) (cond (a_1==n_0.2.2.2.1) (some (b_2==0)) (some false))) λcd=>
some cd) (some false)))))
def zcy (p_0:Plan) (m_1:zR) (n_2:zR):Option (Bool):=
Zb (zfC m_1) λy3=>
Zb (zfn p_0 y3) λy4=>
Zb (idx p_0.1 y4) λx5=>
Zb (zfC m_1) λyc=>
Zb (zdu x5 yc) λya=>
Zb (zhx n_2) λyd=>
Zb (zdu x5 yd) λyb=>
Zb (cond (decide (ya>=0)) (cond (decide (yb>=0)) (Zb (zeW x5 ya yb) λye=>
some ye) (some false)) (some false)) λca=>
some ca
def zeA (p_0:Plan) (l_1:(List zR)):Option (Bool):=
Zb (iter (σ:=Int) (τ:=Unit⊕(Bool)) (λsa=>
cond (decide (sa<(zl l_1))) (Zb (idx l_1 sa) λxa=>
Zb (zeV p_0 xa) λya=>
cond (!ya) (some (.inr (.inr false))) (cond (decide (sa>0)) (Zb (idx l_1 (w64 (sa-1))) λxb=>
Zb (idx l_1 sa) λxd=>
Zb (zcy p_0 xb xd) λyb=>
cond (!yb) (some (.inr (.inr false))) (some (.inl (w64 (sa+1))))) (some (.inl (w64 (sa+1)))))) (some (.inr (.inl ())))) big 0) λta=>
alt (λbb=>Zb (z8 (zl l_1) 1 2000) λyc=>
some yc) (λba=>some ba) ta
def zaW (p_0:Plan) (rail_1:Int):Option (Int):=
Zb (zdf p_0 rail_1) λy1=>
Zb (iter (σ:=(Int×Int)) (τ:=Int) (λsa=>
cond (decide (sa.2<(zl y1))) (Zb (idx y1 (w64 (sa.2-1))) λxa=>
Zb (idx y1 sa.2) λxb=>
Zb (zdg xa xb) λya=>
some (.inl ((w64 (sa.1+ya)),(w64 (sa.2+1))))) (some (.inr sa.1))) big (0,1)) λta=>
some ta
def zbQ (p_0:Plan) (l_1:(List zR)):Option (Int):=
Zb (iter (σ:=(Int×Int)) (τ:=Int) (λs6=>
cond (decide (s6.2<(zl l_1))) (Zb (idx l_1 s6.2) λxa=>
Zb (zaW p_0 xa.1) λya=>
some (.inl ((w64 (s6.1+ya)),(w64 (s6.2+1))))) (some (.inr s6.1))) big (0,0)) λta=>
some ta
def zbb (x_0:Int) (low_1:Int) (high_2:Int):Option (Bool):=
Zb (cond (decide (x_0>=low_1)) (some (decide (x_0<=high_2))) (some false)) λc2=>
some c2
def zeh (t_0:Train):Option (Bool):=
Zb (Zb (zbb t_0.1 1000 80000) λya=>
cond (!ya) (some true) (Zb (zbb t_0.2.1 1 60000) λyb=>
cond (!yb) (some true) (Zb (zbb t_0.2.2.1 1 25000) λyc=>
cond (!yc) (some true) (Zb (zbb t_0.2.2.2.1 1 200000) λyd=>
cond (!yd) (some true) (Zb (zbb t_0.2.2.2.2.1 1 200000) λye=>
cond (!ye) (some true) (Zb (zbb t_0.2.2.2.2.2.1 1 2000000) λyf=>
cond (!yf) (some true) (Zb (zbb t_0.2.2.2.2.2.2.1 0 100000) λyg=>
cond (!yg) (some true) (Zb (zbb t_0.2.2.2.2.2.2.2.1 0 10000) λyh=>
cond (!yh) (some true) (Zb (zbb t_0.2.2.2.2.2.2.2.2.1 0 100) λyi=>
cond (!yi) (some true) (Zb (zbb (zl t_0.2.2.2.2.2.2.2.2.2.1) 1 8) λyj=>
some (!yj))))))))))) λca=>
cond ca (some false) (Zb (iter (σ:=Int) (τ:=Unit⊕(Bool)) (λsa=>
cond (decide (sa<(zl t_0.2.2.2.2.2.2.2.2.2.1))) (Zb (idx t_0.2.2.2.2.2.2.2.2.2.1 sa) λxa=>
Zb (zbb xa 1 1000) λyk=>
cond (!yk) (some (.inr (.inr false))) (some (.inl (w64 (sa+1))))) (some (.inr (.inl ())))) big 0) λta=>
alt (λbb=>some true) (λba=>some ba) ta)
def zei (p_0:Plan) (way_1:(List zR)) (t_2:Train) (state_3:Int) (stops_4:(List Int)):Option (Bool):=
Zb (Zb (zdt p_0) λya=>
cond (!ya) (some true) (Zb (zeA p_0 way_1) λyb=>
cond (!yb) (some true) (Zb (zeh t_2) λyc=>
cond (!yc) (some true) (Zb (zbb state_3 0 (w64 ((zl t_2.2.2.2.2.2.2.2.2.2.1)-1))) λyd=>
cond (!yd) (some true) (Zb (zbb (zl stops_4) 2 100) λye=>
cond (!ye) (some true) (Zb (idx stops_4 0) λxa=>
some (decide (xa<t_2.2.1)))))))) λca=>
cond ca (some false) (Zb (iter (σ:=Int) (τ:=Unit⊕(Bool)) (λsa=>
cond (decide (sa<(zl stops_4))) (Zb (idx stops_4 sa) λxb=>
Zb (idx stops_4 (w64 (sa-1))) λxd=>
cond (decide (xb<=xd)) (some (.inr (.inr false))) (some (.inl (w64 (sa+1))))) (some (.inr (.inl ())))) big 1) λta=>
alt (λbb=>Zb (idx stops_4 (w64 ((zl stops_4)-1))) λxe=>
Zb (zbQ p_0 way_1) λyf=>
some (decide (xe<=yf))) (λba=>some ba) ta)
def zK (t_0:Train) (x_1:zb):Option (Int):=
Zb (zdJ .i64 x_1.2.1 (w64 (10*t_0.1))) λx1=>
some x1
def zaX (r_0:z6) (place_1:Int):Option (Int):=
Zb (iter (σ:=(Int×Int)) (τ:=Unit⊕(Int)) (λsa=>
cond (decide (sa.2<(zl r_0.2.1))) (Zb (idx r_0.2.1 sa.2) λxa=>
Zb (zaW r_0.1 xa.1) λya=>
cond (decide (place_1<(w64 (sa.1+ya)))) (Zb (idx r_0.2.1 sa.2) λxb=>
cond xb.2.1 (Zb (idx r_0.2.1 sa.2) λxd=>
Zb (idx r_0.1.2.1 xd.1) λxe=>
some (.inr (.inr (w64 (0-xe.2.2.2.2.1))))) (Zb (idx r_0.2.1 sa.2) λxf=>
Zb (idx r_0.1.2.1 xf.1) λxg=>
some (.inr (.inr xg.2.2.2.2.1)))) (cond (sa.2==(w64 ((zl r_0.2.1)-1))) (Zb (idx r_0.2.1 sa.2) λxh=>
cond xh.2.1 (Zb (idx r_0.2.1 sa.2) λxi=>
Zb (idx r_0.1.2.1 xi.1) λxj=>
some (.inr (.inr (w64 (0-xj.2.2.2.2.1))))) (Zb (idx r_0.2.1 sa.2) λxk=>
Zb (idx r_0.1.2.1 xk.1) λxl=>
some (.inr (.inr xl.2.2.2.2.1)))) (some (.inl ((w64 (sa.1+ya)),(w64 (sa.2+1))))))) (some (.inr (.inl ())))) big (0,0)) λta=>
alt (λbb=>some 0) (λba=>some ba) ta
def zdF (t_0:Train) (speed_1:Int) (demand_2:Int) (slope_3:Int) (state_4:Int):Option (Int×Int×Int×Int):=
Zb (idx t_0.2.2.2.2.2.2.2.2.2.1 state_4) λx3=>
Zb (zdJ .i64 (w64 ((w64 (x3*t_0.1))*981)) 100000) λx4=>
cond (decide (demand_2>0)) (Zb (zdJ .i64 (w64 (t_0.2.2.2.1*demand_2)) 4) λx6=>
cond (decide (speed_1>0)) (Zb (zdJ .i64 (w64 (1000*t_0.2.2.2.2.2.1)) speed_1) λx8=>
cond (decide (demand_2<0)) (Zb (zdJ .i64 (w64 (t_0.2.2.2.2.1*(w64 (0-demand_2)))) 4) λxa=>
Zb (zdJ .i64 (w64 (t_0.2.2.2.2.2.2.2.1*speed_1)) 1000) λxb=>
Zb (zdJ .i64 (w64 ((w64 (t_0.1*slope_3))*981)) 100000) λxd=>
some ((min (min x6 x4) x8),(min xa x4),(w64 (t_0.2.2.2.2.2.2.1+xb)),xd)) (Zb (zdJ .i64 (w64 (t_0.2.2.2.2.2.2.2.1*speed_1)) 1000) λxe=>
Zb (zdJ .i64 (w64 ((w64 (t_0.1*slope_3))*981)) 100000) λxf=>
some ((min (min x6 x4) x8),0,(w64 (t_0.2.2.2.2.2.2.1+xe)),xf))) (cond (decide (demand_2<0)) (Zb (zdJ .i64 (w64 (t_0.2.2.2.2.1*(w64 (0-demand_2)))) 4) λxg=>
Zb (zdJ .i64 (w64 (t_0.2.2.2.2.2.2.2.1*speed_1)) 1000) λxh=>
Zb (zdJ .i64 (w64 ((w64 (t_0.1*slope_3))*981)) 100000) λxi=>
some ((min x6 x4),(min xg x4),(w64 (t_0.2.2.2.2.2.2.1+xh)),xi)) (Zb (zdJ .i64 (w64 (t_0.2.2.2.2.2.2.2.1*speed_1)) 1000) λxj=>
Zb (zdJ .i64 (w64 ((w64 (t_0.1*slope_3))*981)) 100000) λxk=>
some ((min x6 x4),0,(w64 (t_0.2.2.2.2.2.2.1+xj)),xk)))) (cond (decide (demand_2<0)) (Zb (zdJ .i64 (w64 (t_0.2.2.2.2.1*(w64 (0-demand_2)))) 4) λxl=>
Zb (zdJ .i64 (w64 (t_0.2.2.2.2.2.2.2.1*speed_1)) 1000) λxm=>
Zb (zdJ .i64 (w64 ((w64 (t_0.1*slope_3))*981)) 100000) λxn=>
some (0,(min xl x4),(w64 (t_0.2.2.2.2.2.2.1+xm)),xn)) (Zb (zdJ .i64 (w64 (t_0.2.2.2.2.2.2.2.1*speed_1)) 1000) λxo=>
Zb (zdJ .i64 (w64 ((w64 (t_0.1*slope_3))*981)) 100000) λxp=>
some (0,0,(w64 (t_0.2.2.2.2.2.2.1+xo)),xp)))
def zaE (t_0:Train) (x_1:zb) (demand_2:Int) (slope_3:Int) (state_4:Int):Option (zb×zX×Bool):=
Zb (zdJ .i64 x_1.1 t_0.1) λx5=>
Zb (zdF t_0 x5 demand_2 slope_3 state_4) λy6=>
Zb (cond (decide ((w64 (x_1.1+(w64 (100*(w64 ((w64 ((w64 (y6.1-y6.2.1))-y6.2.2.1))-y6.2.2.2))))))<0)) (some true) (cond (x_1.1==0) (some (decide ((w64 ((w64 ((w64 (y6.1-y6.2.1))-y6.2.2.1))-y6.2.2.2))<=0))) (some false))) λca=>
cond ca (some (((0,(w64 (x_1.2.1+0)),()):zb),(0,0,0,0,0,(w64 (x_1.1*x_1.1)),()),(decide (0<=(w64 (25000*t_0.1)))))) (some ((((w64 (x_1.1+(w64 (100*(w64 ((w64 ((w64 (y6.1-y6.2.1))-y6.2.2.1))-y6.2.2.2)))))),(w64 (x_1.2.1+(w64 (x_1.1+(w64 (100*(w64 ((w64 ((w64 (y6.1-y6.2.1))-y6.2.2.1))-y6.2.2.2)))))))),()):zb),(((w64 ((w64 (200*y6.1))*(w64 (x_1.1+(w64 (100*(w64 ((w64 ((w64 (y6.1-y6.2.1))-y6.2.2.1))-y6.2.2.2)))))))),(w64 ((w64 (200*y6.2.1))*(w64 (x_1.1+(w64 (100*(w64 ((w64 ((w64 (y6.1-y6.2.1))-y6.2.2.1))-y6.2.2.2)))))))),(w64 ((w64 (200*y6.2.2.1))*(w64 (x_1.1+(w64 (100*(w64 ((w64 ((w64 (y6.1-y6.2.1))-y6.2.2.1))-y6.2.2.2)))))))),(w64 ((w64 (200*y6.2.2.2))*(w64 (x_1.1+(w64 (100*(w64 ((w64 ((w64 (y6.1-y6.2.1))-y6.2.2.1))-y6.2.2.2)))))))),(w64 ((w64 (10000*(w64 ((w64 ((w64 (y6.1-y6.2.1))-y6.2.2.1))-y6.2.2.2))))*(w64 ((w64 ((w64 (y6.1-y6.2.1))-y6.2.2.1))-y6.2.2.2)))),0,()):zX),(decide ((w64 (x_1.1+(w64 (100*(w64 ((w64 ((w64 (y6.1-y6.2.1))-y6.2.2.1))-y6.2.2.2))))))<=(w64 (25000*t_0.1))))))
def zdG (p_0:Plan) (l_1:(List zR)) (front_2:Int) (length_3:Int):Option (List Cover):=
Zb (iter (σ:=((List Cover)×Int×Int)) (τ:=(List Cover)) (λsa=>
cond (decide (sa.2.2<(zl l_1))) (Zb (idx l_1 sa.2.2) λxa=>
Zb (zaW p_0 xa.1) λya=>
cond (decide ((w64 ((max (w64 (front_2-length_3)) sa.2.1)-sa.2.1))>=(w64 ((min front_2 (w64 (sa.2.1+ya)))-sa.2.1)))) (some (.inl (sa.1,(w64 (sa.2.1+ya)),(w64 (sa.2.2+1))))) (Zb (idx l_1 sa.2.2) λxb=>
cond xb.2.1 (Zb (idx l_1 sa.2.2) λxd=>
Zb (zcL 24 sa.1 ([((xd.1,(w64 (ya-(w64 ((min front_2 (w64 (sa.2.1+ya)))-sa.2.1)))),(w64 (ya-(w64 ((max (w64 (front_2-length_3)) sa.2.1)-sa.2.1)))),()):Cover)])) λxe=>
some (.inl (xe,(w64 (sa.2.1+ya)),(w64 (sa.2.2+1))))) (Zb (idx l_1 sa.2.2) λxf=>
Zb (zcL 24 sa.1 ([((xf.1,(w64 ((max (w64 (front_2-length_3)) sa.2.1)-sa.2.1)),(w64 ((min front_2 (w64 (sa.2.1+ya)))-sa.2.1)),()):Cover)])) λxg=>
some (.inl (xg,(w64 (sa.2.1+ya)),(w64 (sa.2.2+1))))))) (some (.inr sa.1))) big ([],0,0)) λta=>
some ta
def zdv (p_0:Plan) (way_1:(List zR)) (t_2:Train) (place_3:Int):Option (Int):=
Zb (zdG p_0 way_1 place_3 t_2.2.1) λy1=>
Zb (iter (σ:=(Int×Int)) (τ:=Int) (λs8=>
cond (decide (s8.2<(zl y1))) (Zb (idx y1 s8.2) λxa=>
Zb (idx p_0.2.1 xa.1) λxb=>
some (.inl ((min s8.1 xb.2.2.2.1),(w64 (s8.2+1))))) (some (.inr s8.1))) big (t_2.2.2.1,0)) λta=>
some ta
def zdZ (r_0:z6) (x_1:zb):Option (Bool):=
Zb (iter (σ:=(Int×Int×Int)) (τ:=(Bool×Int×Int)) (λsa=>
Zb (zK r_0.2.2.1 (sa.2.1,sa.2.2,())) λyb=>
cond (decide (yb>r_0.2.2.2.2.1)) (some (.inr (false,sa.2.1,sa.2.2))) (Zb (zdJ .i64 sa.2.1 r_0.2.2.1.1) λxa=>
Zb (zK r_0.2.2.1 (sa.2.1,sa.2.2,())) λyc=>
Zb (zdv r_0.1 r_0.2.1 r_0.2.2.1 yc) λyd=>
cond (decide (xa>yd)) (some (.inr (false,sa.2.1,sa.2.2))) (cond (sa.2.1==0) (some (.inr (true,sa.2.1,sa.2.2))) (cond (sa.1==36000) (some (.inr (false,sa.2.1,sa.2.2))) (Zb (zK r_0.2.2.1 (sa.2.1,sa.2.2,())) λye=>
Zb (zaX r_0 ye) λyf=>
Zb (zaE r_0.2.2.1 (sa.2.1,sa.2.2,()) (-4) yf r_0.2.2.2.1) λya=>
cond (!ya.2.2) (some (.inr (false,ya.1.1,ya.1.2.1))) (some (.inl ((w64 (sa.1+1)),ya.1.1,ya.1.2.1)))))))) big (0,x_1.1,x_1.2.1)) λta=>
some ta.1
def zca (r_0:z6) (x_1:zb):Option (Int×Bool):=
Zb (iter (σ:=Int) (τ:=Unit⊕(Int×Bool)) (λsa=>
cond (decide (sa>=(-4))) (Zb (zK r_0.2.2.1 x_1) λyb=>
Zb (zaX r_0 yb) λyc=>
Zb (zaE r_0.2.2.1 x_1 sa yc r_0.2.2.2.1) λya=>
cond ya.2.2 (Zb (zdZ r_0 ya.1) λyd=>
cond yd (some (.inr (.inr (sa,true)))) (some (.inl (w64 (sa-1))))) (some (.inl (w64 (sa-1))))) (some (.inr (.inl ())))) big 4) λta=>
alt (λbb=>some (0,false)) (λba=>some (ba.1,ba.2)) ta
def zbq (t_0:Train) (x_1:zb) (demand_2:Int) (slope_3:Int) (state_4:Int):Option (Int×Int):=
Zb (zdJ .i64 x_1.1 t_0.1) λx3=>
Zb (zdF t_0 x3 demand_2 slope_3 state_4) λy4=>
Zb (zaE t_0 x_1 demand_2 slope_3 state_4) λy5=>
Zb (zdJ .i64 (w64 ((w64 ((w64 (y4.1*y5.1.1))+(w64 (1000*t_0.1))))-1)) (w64 (1000*t_0.1))) λxa=>
Zb (zdJ .i64 (w64 ((w64 (y4.2.1*y5.1.1))*t_0.2.2.2.2.2.2.2.2.1)) (w64 (100000*t_0.1))) λxb=>
some (xa,xb)
def zeB (a_0:zX) (b_1:zX):Option (zX):=
some (((w64 (a_0.1+b_1.1)),(w64 (a_0.2.1+b_1.2.1)),(w64 (a_0.2.2.1+b_1.2.2.1)),(w64 (a_0.2.2.2.1+b_1.2.2.2.1)),(w64 (a_0.2.2.2.2.1+b_1.2.2.2.2.1)),(w64 (a_0.2.2.2.2.2.1+b_1.2.2.2.2.2.1)),()):zX)
def zej (p_0:Plan) (way_1:(List zR)) (t_2:Train) (state_3:Int) (stops_4:(List Int)):Option ((List Leg)×Bool):=
Zb (idx stops_4 0) λx3=>
Zb (iter (σ:=((List Leg)×Int×Int×Int)) (τ:=((List Leg)×Int×Int)⊕((List Leg)×Bool)) (λsb=>
cond (decide (sb.2.1<(zl stops_4))) (Zb (idx stops_4 sb.2.1) λxb=>
Zb (iter (σ:=(Int×Int×Int×Int×Int×Int×Int×Int×Int×Int×Int×Int)) (τ:=(Train×zb×Int×(List Int)×Int×Int×Int×Int×Bool×Int×Int×Int×Int×Int×Int×Int×Int×Int×Int×Int)⊕((List Leg)×Bool×Int×Int×Int×Int×Int×Int×Int×Int×Int×Int×Int)) (λsa=>
cond (decide (sa.2.2.2.2.2.2.2.2.2.2.1>0)) (cond (sa.1==36000) (some (.inr (.inr ([],false,sa.2.1,sa.2.2.1,sa.2.2.2.1,sa.2.2.2.2.1,sa.2.2.2.2.2.1,sa.2.2.2.2.2.2.1,sa.2.2.2.2.2.2.2.1,sa.2.2.2.2.2.2.2.2.1,sa.2.2.2.2.2.2.2.2.2.1,sa.2.2.2.2.2.2.2.2.2.2.1,sa.2.2.2.2.2.2.2.2.2.2.2)))) (cond (decide (sa.2.2.2.2.2.2.2.2.2.2.2>10000000000000000)) (some (.inr (.inr ([],false,sa.2.1,sa.2.2.1,sa.2.2.2.1,sa.2.2.2.2.1,sa.2.2.2.2.2.1,sa.2.2.2.2.2.2.1,sa.2.2.2.2.2.2.2.1,sa.2.2.2.2.2.2.2.2.1,sa.2.2.2.2.2.2.2.2.2.1,sa.2.2.2.2.2.2.2.2.2.2.1,sa.2.2.2.2.2.2.2.2.2.2.2)))) (Zb (zca ((p_0,way_1,t_2,state_3,xb,()):z6) (sa.2.2.2.2.2.2.2.2.2.2.1,sa.2.2.2.2.2.2.2.2.2.2.2,())) λyc=>
cond (!yc.2) (some (.inr (.inr ([],false,sa.2.1,sa.2.2.1,sa.2.2.2.1,sa.2.2.2.2.1,sa.2.2.2.2.2.1,sa.2.2.2.2.2.2.1,sa.2.2.2.2.2.2.2.1,sa.2.2.2.2.2.2.2.2.1,sa.2.2.2.2.2.2.2.2.2.1,sa.2.2.2.2.2.2.2.2.2.2.1,sa.2.2.2.2.2.2.2.2.2.2.2)))) (Zb (zK t_2 (sa.2.2.2.2.2.2.2.2.2.2.1,sa.2.2.2.2.2.2.2.2.2.2.2,())) λyl=>
Zb (zaX ((p_0,way_1,t_2,state_3,xb,()):z6) yl) λyh=>
Zb (zbq t_2 (sa.2.2.2.2.2.2.2.2.2.2.1,sa.2.2.2.2.2.2.2.2.2.2.2,()) yc.1 yh state_3) λyi=>
Zb (zaE t_2 (sa.2.2.2.2.2.2.2.2.2.2.1,sa.2.2.2.2.2.2.2.2.2.2.2,()) yc.1 yh state_3) λyd=>
Zb (zeB (sa.2.2.1,sa.2.2.2.1,sa.2.2.2.2.1,sa.2.2.2.2.2.1,sa.2.2.2.2.2.2.1,sa.2.2.2.2.2.2.2.1,()) yd.2.1) λya=>
some (.inl ((w64 (sa.1+1)),(w64 (sa.2.1+100)),ya.1,ya.2.1,ya.2.2.1,ya.2.2.2.1,ya.2.2.2.2.1,ya.2.2.2.2.2.1,(max sa.2.2.2.2.2.2.2.2.1 yi.1),(max sa.2.2.2.2.2.2.2.2.2.1 yi.2),yd.1.1,yd.1.2.1)))))) (Zb (zK t_2 (sa.2.2.2.2.2.2.2.2.2.2.1,sa.2.2.2.2.2.2.2.2.2.2.2,())) λye=>
Zb (idx stops_4 sb.2.1) λxa=>
cond (decide (ye<(w64 (xa-1000)))) (cond (sa.1==36000) (some (.inr (.inr ([],false,sa.2.1,sa.2.2.1,sa.2.2.2.1,sa.2.2.2.2.1,sa.2.2.2.2.2.1,sa.2.2.2.2.2.2.1,sa.2.2.2.2.2.2.2.1,sa.2.2.2.2.2.2.2.2.1,sa.2.2.2.2.2.2.2.2.2.1,sa.2.2.2.2.2.2.2.2.2.2.1,sa.2.2.2.2.2.2.2.2.2.2.2)))) (cond (decide (sa.2.2.2.2.2.2.2.2.2.2.2>10000000000000000)) (some (.inr (.inr ([],false,sa.2.1,sa.2.2.1,sa.2.2.2.1,sa.2.2.2.2.1,sa.2.2.2.2.2.1,sa.2.2.2.2.2.2.1,sa.2.2.2.2.2.2.2.1,sa.2.2.2.2.2.2.2.2.1,sa.2.2.2.2.2.2.2.2.2.1,sa.2.2.2.2.2.2.2.2.2.2.1,sa.2.2.2.2.2.2.2.2.2.2.2)))) (Zb (zca ((p_0,way_1,t_2,state_3,xb,()):z6) (sa.2.2.2.2.2.2.2.2.2.2.1,sa.2.2.2.2.2.2.2.2.2.2.2,())) λyf=>
cond (!yf.2) (some (.inr (.inr ([],false,sa.2.1,sa.2.2.1,sa.2.2.2.1,sa.2.2.2.2.1,sa.2.2.2.2.2.1,sa.2.2.2.2.2.2.1,sa.2.2.2.2.2.2.2.1,sa.2.2.2.2.2.2.2.2.1,sa.2.2.2.2.2.2.2.2.2.1,sa.2.2.2.2.2.2.2.2.2.2.1,sa.2.2.2.2.2.2.2.2.2.2.2)))) (Zb (zK t_2 (sa.2.2.2.2.2.2.2.2.2.2.1,sa.2.2.2.2.2.2.2.2.2.2.2,())) λym=>
Zb (zaX ((p_0,way_1,t_2,state_3,xb,()):z6) ym) λyj=>
Zb (zbq t_2 (sa.2.2.2.2.2.2.2.2.2.2.1,sa.2.2.2.2.2.2.2.2.2.2.2,()) yf.1 yj state_3) λyk=>
Zb (zaE t_2 (sa.2.2.2.2.2.2.2.2.2.2.1,sa.2.2.2.2.2.2.2.2.2.2.2,()) yf.1 yj state_3) λyg=>
Zb (zeB (sa.2.2.1,sa.2.2.2.1,sa.2.2.2.2.1,sa.2.2.2.2.2.1,sa.2.2.2.2.2.2.1,sa.2.2.2.2.2.2.2.1,()) yg.2.1) λyb=>
some (.inl ((w64 (sa.1+1)),(w64 (sa.2.1+100)),yb.1,yb.2.1,yb.2.2.1,yb.2.2.2.1,yb.2.2.2.2.1,yb.2.2.2.2.2.1,(max sa.2.2.2.2.2.2.2.2.1 yk.1),(max sa.2.2.2.2.2.2.2.2.2.1 yk.2),yg.1.1,yg.1.2.1)))))) (some (.inr (.inl (t_2,(sa.2.2.2.2.2.2.2.2.2.2.1,sa.2.2.2.2.2.2.2.2.2.2.2,()),ye,stops_4,sb.2.1,xa,xa,(w64 (xa-1000)),(decide (ye<(w64 (xa-1000)))),sa.2.1,sa.2.2.1,sa.2.2.2.1,sa.2.2.2.2.1,sa.2.2.2.2.2.1,sa.2.2.2.2.2.2.1,sa.2.2.2.2.2.2.2.1,sa.2.2.2.2.2.2.2.2.1,sa.2.2.2.2.2.2.2.2.2.1,sa.2.2.2.2.2.2.2.2.2.2.1,sa.2.2.2.2.2.2.2.2.2.2.2)))))) big (0,0,0,0,0,0,0,0,0,0,sb.2.2.1,sb.2.2.2)) λta=>
alt (λba=>Zb (zK t_2 (ba.2.2.2.2.2.2.2.2.2.2.2.2.2.2.2.2.2.2.1,ba.2.2.2.2.2.2.2.2.2.2.2.2.2.2.2.2.2.2.2,())) λyn=>
Zb (zcL 80 sb.1 ([(ba.2.2.2.2.2.2.2.2.2.1,yn,(ba.2.2.2.2.2.2.2.2.2.2.1,ba.2.2.2.2.2.2.2.2.2.2.2.1,ba.2.2.2.2.2.2.2.2.2.2.2.2.1,ba.2.2.2.2.2.2.2.2.2.2.2.2.2.1,ba.2.2.2.2.2.2.2.2.2.2.2.2.2.2.1,ba.2.2.2.2.2.2.2.2.2.2.2.2.2.2.2.1,()),ba.2.2.2.2.2.2.2.2.2.2.2.2.2.2.2.2.1,ba.2.2.2.2.2.2.2.2.2.2.2.2.2.2.2.2.2.1,())])) λxd=>
some (.inl (xd,(w64 (sb.2.1+1)),ba.2.2.2.2.2.2.2.2.2.2.2.2.2.2.2.2.2.2.1,ba.2.2.2.2.2.2.2.2.2.2.2.2.2.2.2.2.2.2.2))) (λbb=>some (.inr (.inr (bb.1,bb.2.1)))) ta) (some (.inr (.inl (sb.1,sb.2.2.1,sb.2.2.2))))) big ([],1,0,(w64 ((w64 (10*t_2.1))*x3)))) λtb=>
alt (λbc=>some (bc.1,(decide (bc.2.2<=10000000000000000)))) (λbd=>some (bd.1,bd.2)) tb
def zfD (p_0:Plan) (way_1:(List zR)) (t_2:Train) (state_3:Int) (stops_4:(List Int)):Option ((List Int)×Bool):=
Zb (zei p_0 way_1 t_2 state_3 stops_4) λy1=>
cond (!y1) (some ([],false)) (Zb (zej p_0 way_1 t_2 state_3 stops_4) λy3=>
Zb (iter (σ:=((List Int)×Int)) (τ:=(List Int)) (λs9=>
cond (decide (s9.2<(zl y3.1))) (Zb (idx y3.1 s9.2) λxa=>
Zb (zcL 8 s9.1 ([xa.1])) λxb=>
some (.inl (xb,(w64 (s9.2+1))))) (some (.inr s9.1))) big ([],0)) λta=>
some (ta,y3.2))
def zcJ (p_0:Plan) (l_1:Line) (home_2:Bool):Option ((List Int)×Bool):=
Zb (zeF l_1 home_2) λy1=>
Zb (Zb (zeA p_0 y1.1) λyb=>
cond (!yb) (some true) (Zb (zcT (zl y1.2.1) 2 60) λyc=>
cond (!yc) (some true) (cond ((zl y1.2.2.1)!=(zl y1.2.1)) (some true) (Zb (idx y1.2.2.1 0) λxa=>
cond (xa !=0) (some true) (Zb (idx y1.2.2.1 (w64 ((zl y1.2.2.1)-1))) λxb=>
some (xb !=0)))))) λca=>
cond ca (some ([],false)) (Zb (iter (σ:=Int) (τ:=Unit⊕((List Int)×Bool)) (λsa=>
cond (decide (sa<(zl y1.2.1))) (Zb (idx y1.2.1 sa) λxd=>
Zb (zbQ p_0 y1.1) λyd=>
Zb (zcT xd 1 yd) λye=>
cond (!ye) (some (.inr (.inr ([],false)))) (Zb (idx y1.2.2.1 sa) λxe=>
Zb (zcT xe 0 600) λyf=>
cond (!yf) (some (.inr (.inr ([],false)))) (cond (decide (sa>0)) (Zb (idx y1.2.1 sa) λxf=>
Zb (idx y1.2.1 (w64 (sa-1))) λxg=>
cond (decide (xf<=xg)) (some (.inr (.inr ([],false)))) (some (.inl (w64 (sa+1))))) (some (.inl (w64 (sa+1))))))) (some (.inr (.inl ())))) big 0) λta=>
alt (λbb=>Zb (zfD p_0 y1.1 l_1.2.2.1 l_1.2.2.2.1 y1.2.1) λya=>
cond (!ya.2) (some ([],false)) (Zb (iter (σ:=((List Int)×Int)) (τ:=(List Int)) (λsb=>
cond (decide (sb.2<(zl ya.1))) (Zb (idx ya.1 sb.2) λxh=>
Zb (zdJ .i64 (w64 (xh+999)) 1000) λxi=>
Zb (zcL 8 sb.1 ([(max 1 xi)])) λxj=>
some (.inl (xj,(w64 (sb.2+1))))) (some (.inr sb.1))) big ([],0)) λtb=>
some (tb,true))) (λba=>some (ba.1,ba.2)) ta)
def zeX (p_0:Plan) (l_1:Line) (home_2:Bool):Option (List Int):=
Zb (zcJ p_0 l_1 home_2) λy1=>
some y1.1
def zaQ (p_0:Plan) (l_1:Line) (home_2:Bool):Option (List Int):=
Zb (zeF l_1 home_2) λy1=>
Zb (zeX p_0 l_1 home_2) λy3=>
Zb (iter (σ:=((List Int)×Int)) (τ:=(List Int)) (λsa=>
cond (decide (sa.2<(zl y3))) (Zb (idx sa.1 sa.2) λxa=>
Zb (idx y3 sa.2) λxb=>
Zb (idx y1.2.2.1 (w64 (sa.2+1))) λxd=>
Zb (zcL 8 sa.1 ([(w64 ((w64 (xa+xb))+xd))])) λxe=>
some (.inl (xe,(w64 (sa.2+1))))) (some (.inr sa.1))) big ([0],0)) λta=>
some ta
def zd0 (p_0:Plan) (l_1:Line):Option (Bool):=
Zb (zcT l_1.2.2.2.2.1 0 3600) λy1=>
cond (!y1) (some false) (Zb (iter (σ:=Int) (τ:=Unit⊕(Bool)) (λsa=>
cond (decide (sa<2)) (Zb (zcJ p_0 l_1 (sa==1)) λyb=>
cond (!yb.2) (some (.inr (.inr false))) (Zb (zaQ p_0 l_1 (sa==1)) λya=>
Zb (idx ya (w64 ((zl ya)-1))) λxa=>
cond (decide (xa>50000)) (some (.inr (.inr false))) (some (.inl (w64 (sa+1)))))) (some (.inr (.inl ())))) big 0) λta=>
alt (λbb=>some true) (λba=>some ba) ta)
def zdh (p_0:Plan) (s_1:Service):Option (Bool):=
Zb (Zb (zdt p_0) λy7=>
cond (!y7) (some true) (Zb (zcT (zl s_1.1) 1 20) λy9=>
cond (!y9) (some true) (cond ((zl s_1.2.1)!=(zl s_1.1)) (some true) (some ((zl s_1.2.2.1)!=(zl s_1.1)))))) λc6=>
cond c6 (some false) (Zb (iter (σ:=Int) (τ:=Unit⊕(Bool)) (λsa=>
cond (decide (sa<(zl s_1.1))) (Zb (idx s_1.1 sa) λxa=>
Zb (zd0 p_0 xa) λya=>
cond (!ya) (some (.inr (.inr false))) (Zb (idx s_1.2.1 sa) λxb=>
Zb (zcT xb 30 7200) λyb=>
cond (!yb) (some (.inr (.inr false))) (Zb (idx s_1.2.2.1 sa) λxd=>
Zb (idx s_1.2.1 sa) λxe=>
Zb (zcT xd 0 (w64 (xe-1))) λyc=>
cond (!yc) (some (.inr (.inr false))) (some (.inl (w64 (sa+1))))))) (some (.inr (.inl ())))) big 0) λta=>
alt (λbb=>some true) (λba=>some ba) ta)
def zgd (x_0:Int) (low_1:Int) (high_2:Int):Option (Bool):=
Zb (cond (decide (x_0>=low_1)) (some (decide (x_0<=high_2))) (some false)) λc2=>
some c2
def zek (s_0:Service) (trips_1:(List Trip)):Option (Bool):=
Zb (iter (σ:=Int) (τ:=Unit⊕(Bool)) (λsa=>
cond (decide (sa<(zl trips_1))) (Zb (idx trips_1 sa) λxa=>
Zb (zgd xa.1 0 (w64 ((zl s_0.1)-1))) λya=>
cond (!ya) (some (.inr (.inr false))) (Zb (idx trips_1 sa) λxb=>
Zb (zgd xb.2.2.2.1 0 200000) λyb=>
cond (!yb) (some (.inr (.inr false))) (cond (decide (sa>0)) (Zb (idx trips_1 sa) λxd=>
Zb (idx trips_1 (w64 (sa-1))) λxe=>
cond (decide (xd.2.2.2.1<xe.2.2.2.1)) (some (.inr (.inr false))) (some (.inl (w64 (sa+1))))) (some (.inl (w64 (sa+1))))))) (some (.inr (.inl ())))) big 0) λta=>
alt (λbb=>some true) (λba=>some ba) ta
def zel (p_0:Plan) (s_1:Service) (trips_2:(List Trip)):Option ((List Task)×Bool):=
Zb (iter (σ:=((List Task)×Int)) (τ:=(List Task)⊕((List Task)×Bool)) (λsa=>
cond (decide (sa.2<(zl trips_2))) (Zb (idx trips_2 sa.2) λxa=>
Zb (idx s_1.1 xa.1) λxd=>
Zb (zaQ p_0 xd xa.2.1) λya=>
Zb (idx ya (w64 ((zl ya)-1))) λxb=>
cond xa.2.1 (cond (decide ((w64 (xa.2.2.2.1+xb))>200000)) (some (.inr (.inr ([],false)))) (Zb (zcL 32 sa.1 ([((w64 ((w64 (2*xa.1))+1)),(w64 (2*xa.1)),xa.2.2.2.1,(w64 (xa.2.2.2.1+xb)),())])) λxe=>
some (.inl (xe,(w64 (sa.2+1)))))) (cond (decide ((w64 (xa.2.2.2.1+xb))>200000)) (some (.inr (.inr ([],false)))) (Zb (zcL 32 sa.1 ([(((w64 (2*xa.1)),(w64 ((w64 (2*xa.1))+1)),xa.2.2.2.1,(w64 (xa.2.2.2.1+xb)),()):Task)])) λxf=>
some (.inl (xf,(w64 (sa.2+1))))))) (some (.inr (.inl sa.1)))) big ([],0)) λta=>
alt (λbb=>some (bb,(decide ((zl trips_2)<=60)))) (λba=>some (ba.1,ba.2)) ta
def zcz (p_0:Plan) (s_1:Service) (trips_2:(List Trip)):Option (Bool):=
Zb (Zb (zeb p_0 s_1) λy4=>
cond (!y4) (some true) (some (decide ((zl trips_2)>100)))) λc3=>
cond c3 (Zb zb7 λy7=>
some y7) (Zb (zeT p_0 s_1 trips_2) λy8=>
Zb (Zb (zdh p_0 s_1) λyb=>
cond (!yb) (some true) (Zb (zek s_1 trips_2) λyc=>
some (!yc))) λca=>
cond ca (Zb (cond (y8.2==2) (cond ((zl y8.1)==0) (Zb zb7 λyd=>
some yd) (some false)) (some false)) λcc=>
some cc) (Zb (zel p_0 s_1 trips_2) λya=>
cond (!ya.2) (Zb (cond (y8.2==3) (cond ((zl y8.1)==0) (Zb zb7 λye=>
some ye) (some false)) (some false)) λcd=>
some cd) (Zb (cond (y8.2 !=0) (some true) (some ((zl y8.1)!=(zl ya.1)))) λce=>
cond ce (some false) (Zb (iter (σ:=Int) (τ:=Unit⊕(Bool)) (λsa=>
cond (decide (sa<(zl y8.1))) (Zb (idx y8.1 sa) λxa=>
Zb (idx ya.1 sa) λxb=>
cond (xa !=xb) (some (.inr (.inr false))) (some (.inl (w64 (sa+1))))) (some (.inr (.inl ())))) big 0) λta=>
alt (λbb=>Zb zb7 λyf=>
some yf) (λba=>some ba) ta))))
end Go.Ai.Sx