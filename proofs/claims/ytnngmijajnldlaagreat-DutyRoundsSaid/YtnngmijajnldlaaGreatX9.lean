/- Written by program: the data of the functions,and the functions as plain Lean. -/
import Derived.Test.YtnngmijajnldlaaGreatX7
set_option linter.unusedSimpArgs false
set_option linter.unusedVariables false
set_option linter.unusedSectionVars false
open Option renaming some→Ob,none→Oe
open Bool renaming false→Oc,true→Od
open Option renaming bind->Zb,bind_some->Zs
namespace Go.Ai.Sx
abbrev Spot:Type:=Int×Int×Unit
abbrev zA:Type:=Int×Bool×Unit
abbrev zd5:Type:=Spot×Int×List zA×Int×Unit
abbrev Rail:Type:=Int×Int×List Spot×Int×Int×Unit
abbrev Plan:Type:=List zd5×List Rail×Unit
abbrev zad:Type:=Int×Bool×Unit
abbrev Course:Type:=List zad×List Int×List Int×Unit
abbrev Train:Type:=Int×Int×Int×Int×Int×Int×Int×Int×Int×List Int×Unit
abbrev Line:Type:=Course×Course×Train×Int×Int×Unit
abbrev Service:Type:=List Line×List Int×List Int×Unit
abbrev Task:Type:=Int×Int×Int×Int×Unit
abbrev Yard:Type:=List (List Int)×Int×List Bool×Unit
abbrev zae:Type:=List Task×Yard×Unit
abbrev ziy:Type:=List Int×List Int×Unit
abbrev zeY:Type:=Int×Int×Int×Int×Int×Int×Unit
abbrev zaW:Type:=zae×List (List Int)×zeY×Unit
abbrev z4:Type:=Int×Int×Int×Unit
abbrev Duty:Type:=List z4×Unit
abbrev zf:Type:=Duty×Int×Int×Unit
abbrev zbY:Type:=Int×Int×Unit
abbrev zbn:Type:=Plan×List Int×List (zA×Int)×Unit
abbrev zjz:Type:=Plan×Unit×zd×Unit
abbrev zaG:Type:=zd5×Unit
abbrev zaw:Type:=Train×Int×Unit
abbrev zaF:Type:=zaw×List zad×List Int×List Int×List Int×List Int×Unit
abbrev zlf:Type:=zaw×List zad×Unit×Unit×Unit×List Int×Unit
abbrev ze:Type:=Int×Int×Unit
abbrev zbh:Type:=Int×Int×Int×Int×Int×Int×Unit
abbrev zbl:Type:=ze×zbh×Int×Int×Unit
abbrev Leg:Type:=Int×Int×zbh×Int×Int×Unit
abbrev zu:Type:=Line×List (List Int)×List (List Int)×Unit
abbrev Works:Type:=Int×Int×Int×Unit
abbrev Trip:Type:=Int×Bool×Int×Int×Unit
abbrev zzG:Type:=zd×Int×List Bool×Unit
abbrev zdF:Rep Spot:=(zC (zh .i64) (zC (zh .i64) zcE))
abbrev zaR:Rep zA:=(zC (zh .i64) (zC zw zcE))
abbrev zdm:Rep zd5:=(zC zdF (zC (zh .i64) (zC (zb zaR) (zC (zh .i64) zcE))))
abbrev zfk:Rep Rail:=(zC (zh .i64) (zC (zh .i64) (zC (zb zdF) (zC (zh .i64) (zC (zh .i64) zcE)))))
abbrev zdS:Rep Plan:=(zC (zb zdm) (zC (zb zfk) zcE))
abbrev zam:Rep zad:=(zC (zh .i64) (zC zw zcE))
abbrev zd6:Rep Course:=(zC (zb zam) (zC (zb (zh .i64)) (zC (zb (zh .i64)) zcE)))
abbrev zdT:Rep Train:=(zC (zh .i64) (zC (zh .i64) (zC (zh .i64) (zC (zh .i64) (zC (zh .i64) (zC (zh .i64) (zC (zh .i64) (zC (zh .i64) (zC (zh .i64) (zC (zb (zh .i64)) zcE))))))))))
abbrev zfN:Rep Line:=(zC zd6 (zC zd6 (zC zdT (zC (zh .i64) (zC (zh .i64) zcE)))))
abbrev zd0:Rep Service:=(zC (zb zfN) (zC (zb (zh .i64)) (zC (zb (zh .i64)) zcE)))
abbrev zcp:Rep Task:=(zC (zh .i64) (zC (zh .i64) (zC (zh .i64) (zC (zh .i64) zcE))))
abbrev zhV:Rep Yard:=(zC (zb (zb (zh .i64))) (zC (zh .i64) (zC (zb zw) zcE)))
abbrev zQ:Rep zae:=(zC (zb zcp) (zC zhV zcE))
abbrev zeK:Rep ziy:=(zC (zb (zh .i64)) (zC (zb (zh .i64)) zcE))
abbrev zbT:Rep zeY:=(zC (zh .i64) (zC (zh .i64) (zC (zh .i64) (zC (zh .i64) (zC (zh .i64) (zC (zh .i64) zcE))))))
abbrev z8:Rep zaW:=(zC (zL zQ) (zC (zb (zb (zh .i64))) (zC zbT zcE)))
abbrev zy:Rep z4:=(zC (zh .i64) (zC (zh .i64) (zC (zh .i64) zcE)))
abbrev zcJ:Rep Duty:=(zC (zb zy) zcE)
abbrev zg:Rep zf:=(zC zcJ (zC (zh .u64) (zC (zh .i64) zcE)))
abbrev zaN:Rep zbY:=(zC (zh .i64) (zC (zh .i64) zcE))
abbrev zai:Rep zbn:=(zC zdS (zC (zb (zh .i64)) (zC (zrj zaR (zh .i64)) zcE)))
abbrev zi4:Rep zjz:=(zC zdS (zC zuJ (zC zhH zcE)))
abbrev zaz:Rep zaG:=(zC zdm zcE)
abbrev zO:Rep zaw:=(zC zdT (zC (zh .i64) zcE))
abbrev zaH:Rep zaF:=(zC (zL zO) (zC (zb zam) (zC (zb (zh .i64)) (zC (zb (zh .i64)) (zC (zb (zh .i64)) (zC (zb (zh .i64)) zcE))))))
abbrev zkD:Rep zlf:=(zC (zL zO) (zC (zb zam) (zC zuJ (zC zuJ (zC zuJ (zC (zb (zh .i64)) zcE))))))
abbrev zM:Rep ze:=(zC (zh .i64) (zC (zh .i64) zcE))
abbrev zag:Rep zbh:=(zC (zh .i64) (zC (zh .i64) (zC (zh .i64) (zC (zh .i64) (zC (zh .i64) (zC (zh .i64) zcE))))))
abbrev zaX:Rep zbl:=(zC zM (zC zag (zC (zh .i64) (zC (zh .i64) zcE))))
abbrev zkE:Rep Leg:=(zC (zh .i64) (zC (zh .i64) (zC zag (zC (zh .i64) (zC (zh .i64) zcE)))))
abbrev zl:Rep zu:=(zC zfN (zC (zjJ 2 (zb (zh .i64))) (zC (zjJ 2 (zb (zh .i64))) zcE)))
abbrev zeC:Rep Works:=(zC (zh .i64) (zC (zh .i64) (zC (zh .i64) zcE)))
abbrev z9:Rep Trip:=(zC (zh .i64) (zC zw (zC (zh .i64) (zC (zh .i64) zcE))))
theorem znQ:FOk z9 0 (zh .i64) (λx=>x.1) (λx y=>(y,x.2.1,x.2.2.1,x.2.2.2.1,())):=FOk.off FOk.here rfl
theorem znR:FOk z9 2 (zh .i64) (λx=>x.2.2.1) (λx y=>(x.1,x.2.1,y,x.2.2.2.1,())):=FOk.off (FOk.there (FOk.there FOk.here)) rfl
abbrev zsr:Rep zzG:=(zC zhH (zC (zh .i64) (zC (zb zw) zcE)))
theorem zet {x:zbh}:Cells zag x [.val (zh .i64) x.1,.val (zh .i64) x.2.1,.val (zh .i64) x.2.2.1,.val (zh .i64) x.2.2.2.1,.val (zh .i64) x.2.2.2.2.1,.val (zh .i64) x.2.2.2.2.2.1]:=(zt (zz rfl) (zt (zz rfl) (zt (zz rfl) (zt (zz rfl) (zt (zz rfl) (zt (zz rfl) zb7 rfl) rfl) rfl) rfl) rfl) rfl)
theorem zhI {x:ze}:Cells zM x [.val (zh .i64) x.1,.val (zh .i64) x.2.1]:=(zt (zz rfl) (zt (zz rfl) zb7 rfl) rfl)
def zdM:List Int:=[0,1,2,2,3,3,3,3,4,4,4,4,4,4,4,4,5,5,5,5,5,5,5,5,5,5,5,5,5,5,5,5,6,6,6,6,6,6,6,6,6,6,6,6,6,6,6,6,6,6,6,6,6,6,6,6,6,6,6,6,6,6,6,6,7,7,7,7,7,7,7,7,7,7,7,7,7,7,7,7,7,7,7,7,7,7,7,7,7,7,7,7,7,7,7,7,7,7,7,7,7,7,7,7,7,7,7,7,7,7,7,7,7,7,7,7,7,7,7,7,7,7,7,7,7,7,7,7,8,8,8,8,8,8,8,8,8,8,8,8,8,8,8,8,8,8,8,8,8,8,8,8,8,8,8,8,8,8,8,8,8,8,8,8,8,8,8,8,8,8,8,8,8,8,8,8,8,8,8,8,8,8,8,8,8,8,8,8,8,8,8,8,8,8,8,8,8,8,8,8,8,8,8,8,8,8,8,8,8,8,8,8,8,8,8,8,8,8,8,8,8,8,8,8,8,8,8,8,8,8,8,8,8,8,8,8,8,8,8,8,8,8,8,8,8,8,8,8,8,8,8,8,8,8,8,8]
def zeu (b:Plan) (a:Service):Option Bool:=
Zb (cond (decide (zq b.2.1<=8)) (cond (decide (zq b.1<=10)) (cond (decide (zq a.1<=2)) (cond (decide (zq a.2.1<=3)) (Ob (decide (zq a.2.2.1<=3))) (Ob Oc)) (Ob Oc)) (Ob Oc)) (Ob Oc)) λc5=>
Ob c5
def zaa (c:Int) (b:Int) (a:Int):Option Bool:=
Zb (cond (decide (c>=b)) (Ob (decide (c<=a))) (Ob Oc)) λc4=>
Ob c4
def za6 (a:List Int) (b:(Int->Option Bool)):Option Int:=
Zb (iter (σ:=Int) (τ:=Unit⊕Int) (λs5=>
cond (decide (s5<zq a)) (Zb (idx a s5) λx8=>
Zb (b x8) λy9=>
cond y9 (Ob (.inr (.inr s5))) (Ob (.inl (w64 (s5+1))))) (Ob (.inr (.inl ())))) big 0) λta=>
alt (λbb=>Ob (-1)) (λba=>Ob ba) ta
def zJ (b:List Int) (a:(Int->Option Bool)):Option Bool:=
Zb (za6 b a) λy1=>
Ob (decide (y1>=0))
def zeQ (a:Int):Option Bool:=
Zb (zaa a (-1) 20000) λy1=>
Ob (!y1)
def zc3 (a:List Task) (b:Yard):Option Int:=
Zb (cond (decide (zq a>60)) (Ob Od) (Zb (zaa (zq b.2.2.1) 1 40) λy8=>
cond (!y8) (Ob Od) (cond ((zq b.1)!=zq b.2.2.1) (Ob Od) (Zb (zaa b.2.1 0 3600) λya=>
Ob (!ya))))) λc6=>
cond c6 (Ob 2) (Zb (iter (σ:=Int) (τ:=Unit⊕Int) (λsb=>
cond (decide (sb<zq b.1)) (Zb (idx b.1 sb) λxb=>
cond ((zq xb)!=zq b.2.2.1) (Ob (.inr (.inr 2))) (Zb (idx xb sb) λxd=>
cond (xd !=0) (Ob (.inr (.inr 2))) (Zb (zJ xb (λx=>zeQ x)) λyb=>
cond yb (Ob (.inr (.inr 2))) (Ob (.inl (w64 (sb+1))))))) (Ob (.inr (.inl ())))) big 0) λta=>
alt (λbc=>Zb (iter (σ:=Int) (τ:=Unit⊕Int) (λsa=>
cond (decide (sa<zq a)) (Zb (idx a sa) λxa=>
Zb (zaa xa.1 0 (w64 (zq b.2.2.1-1))) λyc=>
cond (!yc) (Ob (.inr (.inr 2))) (Zb (zaa xa.2.1 0 (w64 (zq b.2.2.1-1))) λyd=>
cond (!yd) (Ob (.inr (.inr 2))) (Zb (zaa xa.2.2.1 0 xa.2.2.2.1) λye=>
cond (!ye) (Ob (.inr (.inr 2))) (cond (decide (xa.2.2.2.1>200000)) (Ob (.inr (.inr 2))) (cond (decide (sa>0)) (Zb (idx a (w64 (sa-1))) λxe=>
cond (decide (xa.2.2.1<xe.2.2.1)) (Ob (.inr (.inr 2))) (Ob (.inl (w64 (sa+1))))) (Ob (.inl (w64 (sa+1))))))))) (Ob (.inr (.inl ())))) big 0) λtb=>
alt (λbd=>Ob 0) (λba=>Ob ba) tb) (λbb=>Ob bb) ta)
def zG (a:zae) (c:Int) (b:Int):Option Bool:=
Zb (idx a.1 c) λx5=>
Zb (idx a.1 b) λx6=>
Zb (idx a.2.1.1 x5.2.1) λxb=>
Zb (idx xb x6.1) λxa=>
Zb (cond (decide (c<b)) (cond (decide (xa>=0)) (Ob (decide (w64 (w64 (x5.2.2.2.1+a.2.1.2.1)+xa)<=x6.2.2.1))) (Ob Oc)) (Ob Oc)) λca=>
Ob ca
def za7   (rec:Int->Int->List Bool->List Bool->zae->List Int->Option (Bool×List Bool×List Int)) (a:Int) (c:Int) (d:List Bool) (e:List Bool) (b:zae) (f:List Int):Option (Bool×List Bool×List Int):=
Zb (iter (σ:=(Int×List Bool×List Int)) (τ:=(List Bool×List Int)⊕(Bool×List Bool×List Int)) (λsa=>
cond (decide (sa.1<c)) (Zb (idx d sa.1) λxa=>
cond xa (Ob (.inl (w64 (sa.1+1),sa.2.1,sa.2.2))) (Zb (idx sa.2.1 sa.1) λxb=>
cond xb (Ob (.inl (w64 (sa.1+1),sa.2.1,sa.2.2))) (Zb (zG b a sa.1) λyb=>
cond (!yb) (Ob (.inl (w64 (sa.1+1),sa.2.1,sa.2.2))) (Zb (idx sa.2.1 sa.1) λxf=>
Zb (idx sa.2.2 sa.1) λxd=>
cond (decide (xd<0)) (Zb (idx sa.2.2 sa.1) λxg=>
Ob (.inr (.inr (Od,(sa.2.1).set (Int.toNat sa.1) Od,(sa.2.2).set (Int.toNat sa.1) a)))) (Zb (idx sa.2.2 sa.1) λxe=>
Zb (rec xe c d ((sa.2.1).set (Int.toNat sa.1) Od) b sa.2.2) λya=>
cond ya.1 (Zb (idx ya.2.2 sa.1) λxh=>
Ob (.inr (.inr (Od,ya.2.1,(ya.2.2).set (Int.toNat sa.1) a)))) (Ob (.inl (w64 (sa.1+1),ya.2.1,ya.2.2)))))))) (Ob (.inr (.inl (sa.2.1,sa.2.2))))) big (w64 (a+1),e,f)) λta=>
alt (λbb=>Ob (Oc,bb.1,bb.2)) (λba=>Ob (ba.1,ba.2.1,ba.2.2)) ta
def zbO  :Nat->Int->Int->List Bool->List Bool->zae->List Int->Option (Bool×List Bool×List Int)
 | 0=>λ_ _ _ _ _ _=>Oe
 | k+1=>za7 (zbO k)
def zaY (b:zae) (a:List Int):Option Int:=
Zb (mkO 8 (zq b.1) (0:Int)) λx2=>
Zb (iter (σ:=(Int×List Int)) (τ:=List Int) (λs9=>
cond (decide (s9.1<zq x2)) (Zb (idx s9.2 s9.1) λxe=>
Ob (.inl (w64 (s9.1+1),(s9.2).set (Int.toNat s9.1) (-1)))) (Ob (.inr s9.2))) big (0,x2)) λtb=>
Zb (mkO 1 (zq b.1) (Oc:Bool)) λxb=>
Zb (iter (σ:=(Int×Int×List Bool)) (τ:=(Int×List Bool)) (λsa=>
cond (decide (sa.2.1<zq a)) (Zb (idx a sa.2.1) λxa=>
cond (decide (xa<zq b.1)) (Zb (idx sa.2.2 xa) λxf=>
Ob (.inl (w64 (sa.1+1),w64 (sa.2.1+1),(sa.2.2).set (Int.toNat xa) Od))) (Ob (.inl (sa.1,w64 (sa.2.1+1),sa.2.2)))) (Ob (.inr (sa.1,sa.2.2)))) big (0,0,xb)) λta=>
Zb (iter (σ:=(Int×Int×List Bool×List Int)) (τ:=(Int×List Bool×List Int)) (λsb=>
cond (decide (sb.2.1<zq b.1)) (Zb (mkO 1 (zq b.1) (Oc:Bool)) λxd=>
Zb (zbO big sb.2.1 (zq b.1) ta.2 xd b sb.2.2.2) λya=>
cond ya.1 (Ob (.inl (w64 (sb.1+1),w64 (sb.2.1+1),ya.2.1,ya.2.2))) (Ob (.inl (sb.1,w64 (sb.2.1+1),ya.2.1,ya.2.2)))) (Ob (.inr (sb.1,sb.2.2.1,sb.2.2.2)))) big (ta.1,zq a,[],tb)) λtc=>
Ob tc.1
def zcj (a:List Int) (b:Int):Option Int:=
Zb (iter (σ:=Int) (τ:=Unit⊕Int) (λs4=>
cond (decide (s4<zq a)) (Zb (idx a s4) λx7=>
cond (b==x7) (Ob (.inr (.inr s4))) (Ob (.inl (w64 (s4+1))))) (Ob (.inr (.inl ())))) big 0) λt9=>
alt (λbb=>Ob (-1)) (λba=>Ob ba) t9
def zbK (b:List Int) (a:Int):Option Bool:=
Zb (zcj b a) λy1=>
Ob (decide (y1>=0))
def zck (a:List Int):Option (List Int):=zcY 8 [] a
def zbi (a:zae):Option (List Int):=
Zb (zaY a ([])) λy1=>
Zb (iter (σ:=(List Int×Int)) (τ:=List Int) (λsb=>
cond (decide (sb.2<zq a.1)) (Zb (iter (σ:=(List Int×Int)) (τ:=(List Int×Int×Bool×Bool×zae×Int×List Int×List Int×Int×Int×Bool)⊕List Int) (λsa=>
cond (decide (sa.2<zq a.1)) (Zb (zG a sb.2 sa.2) λyc=>
cond yc (Zb (zbK sa.1 sa.2) λya=>
cond (!ya) (Zb (zck sa.1) λyd=>
Zb (zcY 8 yd ([sa.2])) λxa=>
Zb (zaY a xa) λyb=>
cond (yb==y1) (Zb (zcY 8 sa.1 ([sa.2])) λxb=>
Ob (.inr (.inl (xb,sa.2,ya,!ya,a,sa.2,[sa.2],xa,yb,y1,(yb==y1))))) (Ob (.inl (sa.1,w64 (sa.2+1))))) (Ob (.inl (sa.1,w64 (sa.2+1))))) (Ob (.inl (sa.1,w64 (sa.2+1))))) (Ob (.inr (.inr sa.1)))) big (sb.1,w64 (sb.2+1))) λta=>
alt (λba=>Ob (.inl (ba.1,w64 (sb.2+1)))) (λbb=>Zb (zcY 8 bb ([zq a.1])) λxd=>
Ob (.inl (xd,w64 (sb.2+1)))) ta) (Ob (.inr sb.1))) big ([],0)) λtb=>
Ob tb
def zcw   (rec:Int->List Bool->Int->zae->List Bool->List Int->Option (List Bool×List Bool)) (a:Int) (b:List Bool) (f:Int) (e:zae) (d:List Bool) (c:List Int):Option (List Bool×List Bool):=
Zb (idx b a) λx1=>
cond x1 (Ob (b,d)) (Zb (idx b a) λx3=>
Zb (iter (σ:=(Int×List Bool×List Bool)) (τ:=(List Bool×List Bool)) (λsa=>
cond (decide (sa.1<f)) (Zb (zG e a sa.1) λyb=>
cond yb (Zb (idx sa.2.2 sa.1) λxa=>
cond (!xa) (Zb (idx sa.2.2 sa.1) λxe=>
Zb (idx c sa.1) λxb=>
cond (decide (xb>=0)) (Zb (idx c sa.1) λxd=>
Zb (rec xd sa.2.1 f e ((sa.2.2).set (Int.toNat sa.1) Od) c) λya=>
Ob (.inl (w64 (sa.1+1),ya.1,ya.2))) (Ob (.inl (w64 (sa.1+1),sa.2.1,(sa.2.2).set (Int.toNat sa.1) Od)))) (Ob (.inl (w64 (sa.1+1),sa.2.1,sa.2.2)))) (Ob (.inl (w64 (sa.1+1),sa.2.1,sa.2.2)))) (Ob (.inr (sa.2.1,sa.2.2)))) big (0,(b).set (Int.toNat a) Od,d)) λta=>
Ob (ta.1,ta.2))
def zdG  :Nat->Int->List Bool->Int->zae->List Bool->List Int->Option (List Bool×List Bool)
 | 0=>λ_ _ _ _ _ _=>Oe
 | k+1=>zcw (zdG k)
def zdu (a:List Task) (b:Yard):Option (List (List Int)×ziy×Int):=
Zb (zc3 a b) λy2=>
cond (y2 !=0) (Ob ([],(([],[],()):ziy),2)) (Zb (zbi ((a,b,()):zae)) λy6=>
Zb (mkO 8 (zq a) (0:Int)) λx8=>
Zb (iter (σ:=(Int×List Int)) (τ:=List Int) (λse=>
cond (decide (se.1<zq x8)) (Zb (idx se.2 se.1) λxp=>
Ob (.inl (w64 (se.1+1),(se.2).set (Int.toNat se.1) (-1)))) (Ob (.inr se.2))) big (0,x8)) λtd=>
Zb (iter (σ:=(Int×List Int)) (τ:=List Int) (λsc=>
cond (decide (sc.1<zq y6)) (Zb (idx y6 sc.1) λxa=>
cond (decide (xa<zq a)) (Zb (idx sc.2 xa) λxq=>
Ob (.inl (w64 (sc.1+1),(sc.2).set (Int.toNat xa) sc.1))) (Ob (.inl (w64 (sc.1+1),sc.2)))) (Ob (.inr sc.2))) big (0,td)) λtb=>
Zb (iter (σ:=(List (List Int)×Int)) (τ:=List (List Int)) (λsd=>
cond (decide (sd.2<zq a)) (Zb (idx tb sd.2) λxd=>
cond (decide (xd>=0)) (Ob (.inl (sd.1,w64 (sd.2+1)))) (Zb (iter (σ:=(List Int×Int)) (τ:=List Int) (λsf=>
cond (decide (sf.2<zq a)) (Zb (zcY 8 sf.1 ([sf.2])) λxe=>
Zb (idx y6 sf.2) λxf=>
Ob (.inl (xe,xf))) (Ob (.inr sf.1))) big ([],sd.2)) λte=>
Zb (zcY 24 sd.1 ([te])) λxg=>
Ob (.inl (xg,w64 (sd.2+1))))) (Ob (.inr sd.1))) big ([],0)) λtf=>
Zb (mkO 1 (zq a) (Oc:Bool)) λxh=>
Zb (mkO 1 (zq a) (Oc:Bool)) λxi=>
Zb (iter (σ:=(Int×List Bool×List Bool)) (τ:=(List Bool×List Bool)) (λsb=>
cond (decide (sb.1<zq a)) (Zb (idx y6 sb.1) λxj=>
cond (xj==zq a) (Zb (zdG big sb.1 sb.2.2 (zq a) ((a,b,()):zae) sb.2.1 tb) λya=>
Ob (.inl (w64 (sb.1+1),ya.2,ya.1))) (Ob (.inl (w64 (sb.1+1),sb.2.1,sb.2.2)))) (Ob (.inr (sb.2.1,sb.2.2)))) big (0,xi,xh)) λta=>
Zb (iter (σ:=(Int×List Int×List Int)) (τ:=(List Int×List Int)) (λsa=>
cond (decide (sa.1<zq a)) (Zb (idx ta.2 sa.1) λxk=>
cond (!xk) (Zb (zcY 8 sa.2.2 ([sa.1])) λxb=>
Zb (idx ta.1 sa.1) λxl=>
cond xl (Zb (zcY 8 sa.2.1 ([sa.1])) λxm=>
Ob (.inl (w64 (sa.1+1),xm,xb))) (Ob (.inl (w64 (sa.1+1),sa.2.1,xb)))) (Zb (idx ta.1 sa.1) λxn=>
cond xn (Zb (zcY 8 sa.2.1 ([sa.1])) λxo=>
Ob (.inl (w64 (sa.1+1),xo,sa.2.2))) (Ob (.inl (w64 (sa.1+1),sa.2.1,sa.2.2))))) (Ob (.inr (sa.2.2,sa.2.1)))) big (0,[],[])) λtc=>
Ob (tf,(tc.1,tc.2,()),0))
def zfI :Option (List Task×Yard×zeY):=
Ob ([((0,1,0,50,()):Task),((0,1,20,80,()):Task),((1,0,60,120,()):Task),((1,0,100,150,()):Task),((0,1,260,300,()):Task)],(([[0,100],[100,0]],10,[Od,Oc],()):Yard),((200,400,300,60,10,10,()):zeY))
def zd7 (b:zae) (a:List (List Int)):Option Bool:=
Zb (mkO 1 (zq b.1) (Oc:Bool)) λx1=>
Zb (iter (σ:=(Int×Int×List Bool)) (τ:=(Int×List Bool)⊕Bool) (λsc=>
cond (decide (sc.2.1<zq a)) (Zb (idx a sc.2.1) λxa=>
cond (zq xa==0) (Ob (.inr (.inr Oc))) (cond (decide (sc.2.1>0)) (Zb (idx xa 0) λxe=>
Zb (idx a (w64 (sc.2.1-1))) λxf=>
Zb (idx xf 0) λxg=>
cond (decide (xe<=xg)) (Ob (.inr (.inr Oc))) (Zb (iter (σ:=(Int×Int×List Bool)) (τ:=(Int×List Bool)⊕(Bool×List Bool)) (λsa=>
cond (decide (sa.2.1<zq xa)) (Zb (idx xa sa.2.1) λxb=>
Zb (zaa xb 0 (w64 (zq b.1-1))) λya=>
cond (!ya) (Ob (.inr (.inr (Oc,sa.2.2)))) (Zb (idx sa.2.2 xb) λxh=>
cond xh (Ob (.inr (.inr (Oc,sa.2.2)))) (cond (decide (sa.2.1>0)) (Zb (idx xa (w64 (sa.2.1-1))) λxi=>
Zb (zG b xi xb) λyb=>
cond (!yb) (Ob (.inr (.inr (Oc,sa.2.2)))) (Zb (idx sa.2.2 xb) λxl=>
Ob (.inl (w64 (sa.1+1),w64 (sa.2.1+1),(sa.2.2).set (Int.toNat xb) Od)))) (Zb (idx sa.2.2 xb) λxm=>
Ob (.inl (w64 (sa.1+1),w64 (sa.2.1+1),(sa.2.2).set (Int.toNat xb) Od)))))) (Ob (.inr (.inl (sa.1,sa.2.2))))) big (sc.1,0,sc.2.2)) λta=>
alt (λba=>Ob (.inl (ba.1,w64 (sc.2.1+1),ba.2))) (λbc=>Ob (.inr (.inr bc.1))) ta)) (Zb (iter (σ:=(Int×Int×List Bool)) (τ:=(Int×List Bool)⊕(Bool×List Bool)) (λsb=>
cond (decide (sb.2.1<zq xa)) (Zb (idx xa sb.2.1) λxd=>
Zb (zaa xd 0 (w64 (zq b.1-1))) λyc=>
cond (!yc) (Ob (.inr (.inr (Oc,sb.2.2)))) (Zb (idx sb.2.2 xd) λxj=>
cond xj (Ob (.inr (.inr (Oc,sb.2.2)))) (cond (decide (sb.2.1>0)) (Zb (idx xa (w64 (sb.2.1-1))) λxk=>
Zb (zG b xk xd) λyd=>
cond (!yd) (Ob (.inr (.inr (Oc,sb.2.2)))) (Zb (idx sb.2.2 xd) λxn=>
Ob (.inl (w64 (sb.1+1),w64 (sb.2.1+1),(sb.2.2).set (Int.toNat xd) Od)))) (Zb (idx sb.2.2 xd) λxo=>
Ob (.inl (w64 (sb.1+1),w64 (sb.2.1+1),(sb.2.2).set (Int.toNat xd) Od)))))) (Ob (.inr (.inl (sb.1,sb.2.2))))) big (sc.1,0,sc.2.2)) λtb=>
alt (λbb=>Ob (.inl (bb.1,w64 (sc.2.1+1),bb.2))) (λbd=>Ob (.inr (.inr bd.1))) tb))) (Ob (.inr (.inl (sc.1,sc.2.2))))) big (0,0,x1)) λtc=>
alt (λbe=>Ob (be.1==zq b.1)) (λbf=>Ob bf) tc
def zg9 (a:Int):Option Bool:=
Zb (zaa a 0 200000) λy1=>
Ob (!y1)
def zfl (a:List Task) (d:Yard) (c:List (List Int)) (b:zeY):Option (Option zaW×Bool):=
Zb (zc3 a d) λy1=>
cond (y1 !=0) (Ob ((Oe:Option zaW),Oc)) (Zb (Zb (zd7 ((a,d,()):zae) c) λy7=>
cond (!y7) (Ob Od) (Zb (zJ ([b.1,b.2.1,b.2.2.1,b.2.2.2.1,b.2.2.2.2.1,b.2.2.2.2.2.1]) (λx=>zg9 x)) λy9=>
Ob y9)) λc6=>
cond c6 (Ob ((Oe:Option zaW),Oc)) (Ob (Ob ((((a,d,()):zae),c,b,()):zaW),Od)))
def zdn (a:zaW):Option (List z4):=
Zb (iter (σ:=(List z4×Int)) (τ:=List z4) (λsa=>
cond (decide (sa.2<zq a.2.1)) (Zb (idx a.2.1 sa.2) λxa=>
Zb (iter (σ:=(List z4×Int)) (τ:=List z4) (λsb=>
cond (decide (sb.2<zq xa)) (Zb (iter (σ:=(List z4×Int)) (τ:=List z4) (λsc=>
cond (decide (sc.2<zq xa)) (Zb (zcY 24 sc.1 ([((sa.2,sb.2,sc.2,()):z4)])) λxb=>
Ob (.inl (xb,w64 (sc.2+1)))) (Ob (.inr sc.1))) big (sb.1,sb.2)) λta=>
Ob (.inl (ta,w64 (sb.2+1)))) (Ob (.inr sb.1))) big (sa.1,0)) λtb=>
Ob (.inl (tb,w64 (sa.2+1)))) (Ob (.inr sa.1))) big ([],0)) λtc=>
Ob tc
def zN (a:z4) (b:zaW):Option Int:=
Zb (idx b.2.1 a.1) λx3=>
Zb (slO x3 a.2.1 (w64 (a.2.2.1+1))) λx4=>
Zb (iter (σ:=(Int×Int)) (τ:=Int) (λs8=>
cond (decide (s8.2<zq x4)) (Zb (idx x4 s8.2) λxa=>
Zb (zyU .u64 1 xa) λxb=>
Ob (.inl (bOr .u64 s8.1 xb,w64 (s8.2+1)))) (Ob (.inr s8.1))) big (0,0)) λta=>
Ob ta
def zav (a:List z4) (b:(z4->Option Bool)):Option Int:=
Zb (iter (σ:=Int) (τ:=Unit⊕Int) (λs5=>
cond (decide (s5<zq a)) (Zb (idx a s5) λx8=>
Zb (b x8) λy9=>
cond y9 (Ob (.inr (.inr s5))) (Ob (.inl (w64 (s5+1))))) (Ob (.inr (.inl ())))) big 0) λta=>
alt (λbb=>Ob (-1)) (λba=>Ob ba) ta
def zak (b:List z4) (a:(z4->Option Bool)):Option Bool:=
Zb (zav b a) λy1=>
Ob (decide (y1>=0))
def zcs (a:zaW) (b:z4):Option Task:=
Zb (idx a.2.1 b.1) λx5=>
Zb (idx x5 b.2.2.1) λx6=>
Zb (idx a.1.1 x6) λx7=>
Ob x7
def zcT (a:zaW) (b:z4):Option Task:=
Zb (idx a.2.1 b.1) λx5=>
Zb (idx x5 b.2.1) λx6=>
Zb (idx a.1.1 x6) λx7=>
Ob x7
def zeL (a:zaW) (b:z4):Option Int:=
Zb (zcs a b) λy3=>
Zb (zcT a b) λy4=>
Ob (w64 (y3.2.2.2.1-y4.2.2.1))
def zd8 (b:z4) (a:zaW):Option Bool:=
Zb (zeL a b) λy2=>
Ob (decide (y2>a.2.2.1.1))
def zdH (b:zaW) (a:Duty):Option Bool:=
Zb (zak a.1 (λx=>zd8 x b)) λy1=>
Ob y1
def zcN (a:z4) (b:zaW):Option Bool:=
Zb (cond (decide (a.2.1>0)) (Zb (zcT b a) λya=>
Zb (idx b.1.2.1.2.2.1 ya.1) λxa=>
cond (!xa) (Ob Od) (Zb (idx b.2.1 a.1) λxb=>
cond (decide (a.2.2.1<w64 (zq xb-1))) (Zb (zcs b a) λyb=>
Zb (idx b.1.2.1.2.2.1 yb.2.1) λxd=>
Ob (!xd)) (Ob Oc))) (Zb (idx b.2.1 a.1) λxe=>
cond (decide (a.2.2.1<w64 (zq xe-1))) (Zb (zcs b a) λyc=>
Zb (idx b.1.2.1.2.2.1 yc.2.1) λxf=>
Ob (!xf)) (Ob Oc))) λca=>
Ob ca
def zdo (b:zaW) (a:Duty):Option Bool:=
Zb (zak a.1 (λx=>zcN x b)) λy1=>
Ob y1
def zda (a:zaW) (b:Duty):Option (Int×Int):=
Zb (idx b.1 0) λx7=>
Zb (zcs a x7) λy8=>
Zb (idx b.1 1) λx9=>
Zb (zcT a x9) λya=>
Zb (idx a.1.2.1.1 y8.2.1) λxa=>
Zb (idx xa ya.1) λxb=>
Ob (w64 (ya.2.2.1-y8.2.2.2.1),xb)
def zcU (b:zaW) (a:Duty):Option Bool:=
cond (zq a.1==1) (Ob Oc) (Zb (zda b a) λy2=>
Zb (cond (decide (y2.1<0)) (Ob Od) (Ob (decide (y2.2<0)))) λc4=>
Ob c4)
def zdI (b:zaW) (a:Duty):Option Bool:=
Zb (cond (zq a.1==1) (Ob Od) (Zb (zcU b a) λy6=>
Ob y6)) λc4=>
cond c4 (Ob Oc) (Zb (zda b a) λy8=>
Ob (decide (y8.1<w64 (b.2.2.1.2.2.2.1+y8.2))))
def zfa (b:zaW) (a:Duty):Option Int:=
Zb (idx a.1 (w64 (zq a.1-1))) λx5=>
Zb (zcs b x5) λy6=>
Zb (idx a.1 0) λx7=>
Zb (zcT b x7) λy8=>
Ob (w64 (y6.2.2.2.1-y8.2.2.1))
def zfb (a:zaW) (b:Duty):Option Bool:=
Zb (zfa a b) λy2=>
Ob (decide (w64 (w64 (y2+a.2.2.1.2.2.2.2.1)+a.2.2.1.2.2.2.2.2.1)>a.2.2.1.2.1))
def zd1 (a:zaW) (b:Duty):Option Bool:=
Zb (iter (σ:=(Int×Int)) (τ:=Int) (λs5=>
cond (decide (s5.2<zq b.1)) (Zb (idx b.1 s5.2) λx8=>
Zb (zeL a x8) λya=>
Ob (.inl (w64 (s5.1+ya),w64 (s5.2+1)))) (Ob (.inr s5.1))) big (w64 (a.2.2.1.2.2.2.2.1+a.2.2.1.2.2.2.2.2.1),0)) λta=>
Ob (decide (ta>a.2.2.1.2.2.1))
def zdp (a:zaW) (b:Duty):Option (List Int):=
Zb (iter (σ:=(List Int×Int)) (τ:=List Int) (λs8=>
cond (decide (s8.2<6)) (Zb (idx ([(λx=>zdH a x),(λx=>zdo a x),(λx=>zcU a x),(λx=>zdI a x),(λx=>zfb a x),(λx=>zd1 a x)]:List (Duty->Option Bool)) s8.2) λxa=>
Zb (xa b) λya=>
cond ya (Zb (zcY 8 s8.1 ([w64 (1+s8.2)])) λxb=>
Ob (.inl (xb,w64 (s8.2+1)))) (Ob (.inl (s8.1,w64 (s8.2+1))))) (Ob (.inr s8.1))) big ([],0)) λta=>
Ob ta
def zcx   (d:Int) (a:List z4) (c:zaW) (b:List zf):Option (List zf):=
Zb (zdp c ((a,()):Duty)) λy2=>
cond (zq y2==0) (Zb (zfa c ((a,()):Duty)) λy8=>
Zb (zcY 40 b ([((((a,()):Duty),d,y8,()):zf)])) λx9=>
Ob x9) (Ob b)
def zah   (a:List zf) (c:Int) (d:Int) (b:((zf×zf)->Option Int)):Option (List zf):=
Zb (iter (σ:=(Int×List zf)) (τ:=List zf) (λsb=>
cond (decide (sb.1<d)) (Zb (iter (σ:=(Int×List zf)) (τ:=List zf) (λsa=>
cond (decide (sa.1>c)) (Zb (idx sa.2 sa.1) λxb=>
Zb (idx sa.2 (w64 (sa.1-1))) λxd=>
Zb (b (xb,xd)) λya=>
cond (decide (ya<0)) (Zb (idx sa.2 (w64 (sa.1-1))) λxa=>
Zb (idx sa.2 sa.1) λxe=>
Zb (idx sa.2 sa.1) λxf=>
Zb (idx ((sa.2).set (Int.toNat sa.1) xa) (w64 (sa.1-1))) λxg=>
Ob (.inl (w64 (sa.1-1),((sa.2).set (Int.toNat sa.1) xa).set (Int.toNat (w64 (sa.1-1))) xe))) (Ob (.inr sa.2))) (Ob (.inr sa.2))) big (sb.1,sb.2)) λta=>
Ob (.inl (w64 (sb.1+1),ta))) (Ob (.inr sb.2))) big (w64 (c+1),a)) λtb=>
Ob tb
def zaf   (a:List zf) (b:Int) (c:Int) (e:Int) (d:((zf×zf)->Option Int)):Option (List zf):=
Zb (iter (σ:=(Int×List zf)) (τ:=List zf) (λsa=>
cond (decide (sa.1<e)) (Zb (idx sa.2 (w64 (c+sa.1))) λxa=>
Zb (idx sa.2 (w64 (b+sa.1))) λxb=>
Zb (idx sa.2 (w64 (b+sa.1))) λxd=>
Zb (idx ((sa.2).set (Int.toNat (w64 (b+sa.1))) xa) (w64 (c+sa.1))) λxe=>
Ob (.inl (w64 (sa.1+1),((sa.2).set (Int.toNat (w64 (b+sa.1))) xa).set (Int.toNat (w64 (c+sa.1))) xb))) (Ob (.inr sa.2))) big (0,a)) λta=>
Ob ta
def zaM   (c:List zf) (e:Int) (a:Int) (d:Int) (b:((zf×zf)->Option Int)):Option (List zf):=
Zb (iter (σ:=(Int×Int×List zf)) (τ:=(Int×List zf)) (λsa=>
cond (sa.1 !=sa.2.1) (cond (decide (sa.1>sa.2.1)) (Zb (zaf sa.2.2 (w64 (a-sa.1)) a sa.2.1 b) λya=>
Ob (.inl (w64 (sa.1-sa.2.1),sa.2.1,ya))) (Zb (zaf sa.2.2 (w64 (a-sa.1)) (w64 (w64 (a+sa.2.1)-sa.1)) sa.1 b) λyb=>
Ob (.inl (sa.1,w64 (sa.2.1-sa.1),yb)))) (Ob (.inr (sa.1,sa.2.2)))) big (w64 (a-e),w64 (d-a),c)) λta=>
Zb (zaf ta.2 (w64 (a-ta.1)) a ta.1 b) λyc=>
Ob yc
def zaO   (rec:List zf->Int->Int->Int->((zf×zf)->Option Int)->Option (List zf)) (a:List zf) (e:Int) (b:Int) (d:Int) (c:((zf×zf)->Option Int)):Option (List zf):=
cond (w64 (b-e)==1) (Zb (iter (σ:=(Int×Int)) (τ:=Int) (λsc=>
cond (decide (sc.1<sc.2)) (Zb (zhT .u64 (IntKind.u64.wrap (w64 (sc.1+sc.2))) 1) λxe=>
Zb (idx a (w64 xe)) λxi=>
Zb (idx a e) λxj=>
Zb (c (xi,xj)) λyg=>
cond (decide (yg<0)) (Ob (.inl (w64 (w64 xe+1),sc.2))) (Ob (.inl (sc.1,w64 xe)))) (Ob (.inr sc.1))) big (b,d)) λtc=>
Zb (iter (σ:=(Int×List zf)) (τ:=List zf) (λsa=>
cond (decide (sa.1<w64 (tc-1))) (Zb (idx sa.2 (w64 (sa.1+1))) λxg=>
Zb (idx sa.2 sa.1) λxk=>
Zb (idx sa.2 sa.1) λxt=>
Zb (idx ((sa.2).set (Int.toNat sa.1) xg) (w64 (sa.1+1))) λxu=>
Ob (.inl (w64 (sa.1+1),((sa.2).set (Int.toNat sa.1) xg).set (Int.toNat (w64 (sa.1+1))) xk))) (Ob (.inr sa.2))) big (e,a)) λtd=>
Ob td) (cond (w64 (d-b)==1) (Zb (iter (σ:=(Int×Int)) (τ:=Int) (λsd=>
cond (decide (sd.1<sd.2)) (Zb (zhT .u64 (IntKind.u64.wrap (w64 (sd.1+sd.2))) 1) λxf=>
Zb (idx a b) λxl=>
Zb (idx a (w64 xf)) λxm=>
Zb (c (xl,xm)) λyh=>
cond (!(decide (yh<0))) (Ob (.inl (w64 (w64 xf+1),sd.2))) (Ob (.inl (sd.1,w64 xf)))) (Ob (.inr sd.1))) big (e,b)) λte=>
Zb (iter (σ:=(Int×List zf)) (τ:=List zf) (λsb=>
cond (decide (sb.1>te)) (Zb (idx sb.2 (w64 (sb.1-1))) λxh=>
Zb (idx sb.2 sb.1) λxn=>
Zb (idx sb.2 sb.1) λxv=>
Zb (idx ((sb.2).set (Int.toNat sb.1) xh) (w64 (sb.1-1))) λxw=>
Ob (.inl (w64 (sb.1-1),((sb.2).set (Int.toNat sb.1) xh).set (Int.toNat (w64 (sb.1-1))) xn))) (Ob (.inr sb.2))) big (b,a)) λtf=>
Ob tf) (Zb (zhT .u64 (IntKind.u64.wrap (w64 (e+d))) 1) λxa=>
cond (decide (b>w64 xa)) (Zb (iter (σ:=(Int×Int)) (τ:=Int) (λse=>
cond (decide (se.1<se.2)) (Zb (zhT .u64 (IntKind.u64.wrap (w64 (se.1+se.2))) 1) λxb=>
Zb (idx a (w64 (w64 (w64 (w64 xa+b)-1)-w64 xb))) λxo=>
Zb (idx a (w64 xb)) λxp=>
Zb (c (xo,xp)) λyi=>
cond (!(decide (yi<0))) (Ob (.inl (w64 (w64 xb+1),se.2))) (Ob (.inl (se.1,w64 xb)))) (Ob (.inr se.1))) big (w64 (w64 (w64 xa+b)-d),w64 xa)) λta=>
Zb (cond (decide (ta<b)) (Ob (decide (b<w64 (w64 (w64 xa+b)-ta)))) (Ob Oc)) λca=>
cond ca (Zb (zaM a ta b (w64 (w64 (w64 xa+b)-ta)) c) λya=>
Zb (cond (decide (e<ta)) (Ob (decide (ta<w64 xa))) (Ob Oc)) λcc=>
cond cc (Zb (rec ya e ta (w64 xa) c) λyc=>
Zb (cond (decide (w64 xa<w64 (w64 (w64 xa+b)-ta))) (Ob (decide (w64 (w64 (w64 xa+b)-ta)<d))) (Ob Oc)) λcd=>
cond cd (Zb (rec yc (w64 xa) (w64 (w64 (w64 xa+b)-ta)) d c) λyj=>
Ob yj) (Ob yc)) (Zb (cond (decide (w64 xa<w64 (w64 (w64 xa+b)-ta))) (Ob (decide (w64 (w64 (w64 xa+b)-ta)<d))) (Ob Oc)) λce=>
cond ce (Zb (rec ya (w64 xa) (w64 (w64 (w64 xa+b)-ta)) d c) λyk=>
Ob yk) (Ob ya))) (Zb (cond (decide (e<ta)) (Ob (decide (ta<w64 xa))) (Ob Oc)) λcf=>
cond cf (Zb (rec a e ta (w64 xa) c) λyd=>
Zb (cond (decide (w64 xa<w64 (w64 (w64 xa+b)-ta))) (Ob (decide (w64 (w64 (w64 xa+b)-ta)<d))) (Ob Oc)) λcg=>
cond cg (Zb (rec yd (w64 xa) (w64 (w64 (w64 xa+b)-ta)) d c) λyl=>
Ob yl) (Ob yd)) (Zb (cond (decide (w64 xa<w64 (w64 (w64 xa+b)-ta))) (Ob (decide (w64 (w64 (w64 xa+b)-ta)<d))) (Ob Oc)) λch=>
cond ch (Zb (rec a (w64 xa) (w64 (w64 (w64 xa+b)-ta)) d c) λym=>
Ob ym) (Ob a)))) (Zb (iter (σ:=(Int×Int)) (τ:=Int) (λsf=>
cond (decide (sf.1<sf.2)) (Zb (zhT .u64 (IntKind.u64.wrap (w64 (sf.1+sf.2))) 1) λxd=>
Zb (idx a (w64 (w64 (w64 (w64 xa+b)-1)-w64 xd))) λxq=>
Zb (idx a (w64 xd)) λxr=>
Zb (c (xq,xr)) λyn=>
cond (!(decide (yn<0))) (Ob (.inl (w64 (w64 xd+1),sf.2))) (Ob (.inl (sf.1,w64 xd)))) (Ob (.inr sf.1))) big (e,b)) λtb=>
Zb (cond (decide (tb<b)) (Ob (decide (b<w64 (w64 (w64 xa+b)-tb)))) (Ob Oc)) λci=>
cond ci (Zb (zaM a tb b (w64 (w64 (w64 xa+b)-tb)) c) λyb=>
Zb (cond (decide (e<tb)) (Ob (decide (tb<w64 xa))) (Ob Oc)) λcj=>
cond cj (Zb (rec yb e tb (w64 xa) c) λye=>
Zb (cond (decide (w64 xa<w64 (w64 (w64 xa+b)-tb))) (Ob (decide (w64 (w64 (w64 xa+b)-tb)<d))) (Ob Oc)) λck=>
cond ck (Zb (rec ye (w64 xa) (w64 (w64 (w64 xa+b)-tb)) d c) λyo=>
Ob yo) (Ob ye)) (Zb (cond (decide (w64 xa<w64 (w64 (w64 xa+b)-tb))) (Ob (decide (w64 (w64 (w64 xa+b)-tb)<d))) (Ob Oc)) λcl=>
cond cl (Zb (rec yb (w64 xa) (w64 (w64 (w64 xa+b)-tb)) d c) λyp=>
Ob yp) (Ob yb))) (Zb (cond (decide (e<tb)) (Ob (decide (tb<w64 xa))) (Ob Oc)) λcm=>
cond cm (Zb (rec a e tb (w64 xa) c) λyf=>
Zb (cond (decide (w64 xa<w64 (w64 (w64 xa+b)-tb))) (Ob (decide (w64 (w64 (w64 xa+b)-tb)<d))) (Ob Oc)) λcn=>
cond cn (Zb (rec yf (w64 xa) (w64 (w64 (w64 xa+b)-tb)) d c) λyq=>
Ob yq) (Ob yf)) (Zb (cond (decide (w64 xa<w64 (w64 (w64 xa+b)-tb))) (Ob (decide (w64 (w64 (w64 xa+b)-tb)<d))) (Ob Oc)) λco=>
cond co (Zb (rec a (w64 xa) (w64 (w64 (w64 xa+b)-tb)) d c) λyr=>
Ob yr) (Ob a))))))
def zaA  :Nat->List zf->Int->Int->Int->((zf×zf)->Option Int)->Option (List zf)
 | 0=>λ_ _ _ _ _=>Oe
 | k+1=>zaO (zaA k)
def zbj   (c:List zf) (b:Int) (a:((zf×zf)->Option Int)):Option (List zf):=
Zb (iter (σ:=(Int×Int×List zf)) (τ:=(Int×List zf)) (λs7=>
cond (decide (s7.2.1<=b)) (Zb (zah s7.2.2 s7.1 s7.2.1 a) λya=>
Ob (.inl (s7.2.1,w64 (s7.2.1+20),ya))) (Ob (.inr (s7.1,s7.2.2)))) big (0,20,c)) λtb=>
Zb (zah tb.2 tb.1 b a) λyb=>
Zb (iter (σ:=(Int×List zf)) (τ:=List zf) (λsa=>
cond (decide (sa.1<b)) (Zb (iter (σ:=(Int×Int×List zf)) (τ:=(Int×List zf)) (λsb=>
cond (decide (sb.2.1<=b)) (Zb (zaA big sb.2.2 sb.1 (w64 (sb.1+sa.1)) sb.2.1 a) λyc=>
Ob (.inl (sb.2.1,w64 (sb.2.1+w64 (2*sa.1)),yc))) (Ob (.inr (sb.1,sb.2.2)))) big (0,w64 (2*sa.1),sa.2)) λta=>
cond (decide (w64 (ta.1+sa.1)<b)) (Zb (zaA big ta.2 ta.1 (w64 (ta.1+sa.1)) b a) λyd=>
Ob (.inl (w64 (sa.1*2),yd))) (Ob (.inl (w64 (sa.1*2),ta.2)))) (Ob (.inr sa.2))) big (20,yb)) λtc=>
Ob tc
def zar   (b:List zf) (a:((zf×zf)->Option Int)):Option (List zf):=
Zb (zbj b (zq b) a) λy1=>
Ob y1
def zcq   (b:List zf) (a:((zf×zf)->Option Int)):Option (List zf):=
Zb (zar b a) λy1=>
Ob y1
def zbo (a:Int):Option Bool:=
Ob (a !=a)
def zbD (a:Int) (b:Int):Option Int:=
Zb (zbo a) λy1=>
Zb (zbo b) λy2=>
cond y1 (cond y2 (Ob 0) (Ob (-1))) (cond y2 (Ob 1) (cond (decide (a<b)) (Ob (-1)) (cond (decide (a>b)) (Ob 1) (Ob 0))))
def zfY (a:List Int):Option Int:=
Zb (iter (σ:=Int) (τ:=Unit⊕Int) (λs4=>
cond (decide (s4<zq a)) (Zb (idx a s4) λx7=>
cond (x7 !=0) (Ob (.inr (.inr x7))) (Ob (.inl (w64 (s4+1))))) (Ob (.inr (.inl ())))) big 0) λt9=>
alt (λbb=>Ob 0) (λba=>Ob ba) t9
def zgD (a:z4) (b:z4):Option Int:=
Zb (zbD a.1 b.1) λy5=>
Zb (zbD a.2.1 b.2.1) λy6=>
Zb (zbD a.2.2.1 b.2.2.1) λy7=>
Zb (zfY ([y5,y6,y7])) λy8=>
Ob y8
def zdv (a:zf) (b:zf):Option Int:=
Zb (idx a.1.1 0) λx6=>
Zb (idx b.1.1 0) λx7=>
Zb (zgD x6 x7) λy8=>
Zb (zbD (zq a.1.1) (zq b.1.1)) λy9=>
Zb (zfY ([y8,y9])) λya=>
Zb (cond (ya !=0) (Ob Od) (Ob (zq a.1.1==1))) λca=>
cond ca (Ob ya) (Zb (idx a.1.1 1) λxa=>
Zb (idx b.1.1 1) λxb=>
Zb (zgD xa xb) λyb=>
Ob yb)
def zd9 (a:zaW):Option (List zf):=
Zb (zdn a) λy2=>
Zb (iter (σ:=(Int×List zf)) (τ:=List zf) (λsb=>
cond (decide (sb.1<zq y2)) (Zb (idx y2 sb.1) λxa=>
Zb ((λx=>zN x a) xa) λya=>
Zb (zcx ya ([xa]) a sb.2) λyb=>
Zb (iter (σ:=(Int×List zf)) (τ:=List zf) (λsa=>
cond (decide (sa.1<zq y2)) (Zb (idx y2 sa.1) λxb=>
Zb ((λx=>zN x a) xa) λyc=>
Zb ((λx=>zN x a) xb) λyd=>
cond (zBs .u64 yc yd==0) (Zb ((λx=>zN x a) xa) λye=>
Zb ((λx=>zN x a) xb) λyf=>
Zb (zcx (bOr .u64 ye yf) ([xa,xb]) a sa.2) λyg=>
Ob (.inl (w64 (sa.1+1),yg))) (Ob (.inl (w64 (sa.1+1),sa.2)))) (Ob (.inr sa.2))) big (0,yb)) λta=>
Ob (.inl (w64 (sb.1+1),ta))) (Ob (.inr sb.2))) big (0,[])) λtb=>
Zb (zcq tb (λx=>zdv x.1 x.2)) λyh=>
Ob yh
def zgE (a:List Task) (d:Yard) (b:List (List Int)) (c:zeY):Option (List Duty×Int):=
Zb (zfl a d b c) λy1=>
cond (!y1.2) (Ob ([],2)) (cond (decide (zq a>14)) (Ob ([],3)) (Zb y1.1 λp4=>
Zb (zd9 p4) λy5=>
Zb (zyU .u64 1 (zq a)) λx7=>
Zb (iter (σ:=(Int×List (Int×zbY))) (τ:=List (Int×zbY)) (λsc=>
cond (decide (sc.1<IntKind.u64.wrap (IntKind.u64.wrap (x7-1)+1))) (Zb (iter (σ:=(Int×List (Int×zbY))) (τ:=List (Int×zbY)) (λsb=>
cond (decide (sb.1<zq y5)) (Zb (idx y5 sb.1) λxa=>
cond (sc.1==0) (Ob (.inl (w64 (sb.1+1),sb.2))) (cond (zBs .u64 xa.2.1 (zBs .u64 sc.1 (IntKind.u64.wrap (0-sc.1)))==0) (Ob (.inl (w64 (sb.1+1),sb.2))) (cond ((zb0 .u64 xa.2.1 sc.1)!=0) (Ob (.inl (w64 (sb.1+1),sb.2))) (cond (!((mget sb.2 (zb0 .u64 sc.1 xa.2.1)).isSome)) (Ob (.inl (w64 (sb.1+1),sb.2))) (cond (!((mget sb.2 sc.1).isSome)) (Ob (.inl (w64 (sb.1+1),mset sb.2 sc.1 ((w64 (((mget sb.2 (zb0 .u64 sc.1 xa.2.1)).getD (0,0,())).1+1),w64 (((mget sb.2 (zb0 .u64 sc.1 xa.2.1)).getD (0,0,())).2.1+xa.2.2.1),()):zbY)))) (cond (decide (w64 (((mget sb.2 (zb0 .u64 sc.1 xa.2.1)).getD (0,0,())).1+1)<((mget sb.2 sc.1).getD (0,0,())).1)) (Ob (.inl (w64 (sb.1+1),mset sb.2 sc.1 ((w64 (((mget sb.2 (zb0 .u64 sc.1 xa.2.1)).getD (0,0,())).1+1),w64 (((mget sb.2 (zb0 .u64 sc.1 xa.2.1)).getD (0,0,())).2.1+xa.2.2.1),()):zbY)))) (cond (w64 (((mget sb.2 (zb0 .u64 sc.1 xa.2.1)).getD (0,0,())).1+1)==((mget sb.2 sc.1).getD (0,0,())).1) (cond (decide (w64 (((mget sb.2 (zb0 .u64 sc.1 xa.2.1)).getD (0,0,())).2.1+xa.2.2.1)<((mget sb.2 sc.1).getD (0,0,())).2.1)) (Ob (.inl (w64 (sb.1+1),mset sb.2 sc.1 ((w64 (((mget sb.2 (zb0 .u64 sc.1 xa.2.1)).getD (0,0,())).1+1),w64 (((mget sb.2 (zb0 .u64 sc.1 xa.2.1)).getD (0,0,())).2.1+xa.2.2.1),()):zbY)))) (Ob (.inl (w64 (sb.1+1),sb.2)))) (Ob (.inl (w64 (sb.1+1),sb.2)))))))))) (Ob (.inr sb.2))) big (0,sc.2)) λtb=>
Ob (.inl (IntKind.u64.wrap (sc.1+1),tb))) (Ob (.inr sc.2))) big (0,mset ([]:List (Int×zbY)) 0 ((0,0,()):zbY))) λta=>
cond (!((mget ta (IntKind.u64.wrap (x7-1))).isSome)) (Ob ([],4)) (Zb (iter (σ:=(List Duty×Int×Int×Int)) (τ:=List Duty) (λsd=>
cond (sd.2.1 !=0) (Zb (iter (σ:=(List Duty×Int×Int×Int×Int)) (τ:=(List Duty×Int×Bool×zbY×Int×Int×Int×Int×Int×Int×zbY×Bool×Int×Int)⊕(List Duty×Int×Int)) (λsa=>
cond (decide (sa.2.2.1<zq y5)) (Zb (idx y5 sa.2.2.1) λxb=>
cond (zb0 .u64 xb.2.1 sa.2.1==0) (cond ((mget ta (zb0 .u64 sa.2.1 xb.2.1)).isSome) (cond ((mget ta (zb0 .u64 sa.2.1 xb.2.1)).getD (0,0,())==((w64 (sa.2.2.2.1-1),w64 (sa.2.2.2.2-xb.2.2.1),()):zbY)) (Zb (zcY 24 sa.1 ([xb.1])) λxd=>
Ob (.inr (.inl (xd,zb0 .u64 sa.2.1 xb.2.1,(mget ta (zb0 .u64 sa.2.1 xb.2.1)).isSome,(mget ta (zb0 .u64 sa.2.1 xb.2.1)).getD (0,0,()),sa.2.2.2.1,w64 (sa.2.2.2.1-1),sa.2.2.2.2,xb.2.2.1,xb.2.2.1,w64 (sa.2.2.2.2-xb.2.2.1),((w64 (sa.2.2.2.1-1),w64 (sa.2.2.2.2-xb.2.2.1),()):zbY),((mget ta (zb0 .u64 sa.2.1 xb.2.1)).getD (0,0,())==((w64 (sa.2.2.2.1-1),w64 (sa.2.2.2.2-xb.2.2.1),()):zbY)),((mget ta (zb0 .u64 sa.2.1 xb.2.1)).getD (0,0,())).1,((mget ta (zb0 .u64 sa.2.1 xb.2.1)).getD (0,0,())).2.1)))) (Ob (.inl (sa.1,sa.2.1,w64 (sa.2.2.1+1),sa.2.2.2.1,sa.2.2.2.2)))) (Ob (.inl (sa.1,sa.2.1,w64 (sa.2.2.1+1),sa.2.2.2.1,sa.2.2.2.2)))) (Ob (.inl (sa.1,sa.2.1,w64 (sa.2.2.1+1),sa.2.2.2.1,sa.2.2.2.2)))) (Ob (.inr (.inr (sa.1,sa.2.2.2.1,sa.2.2.2.2))))) big (sd.1,sd.2.1,0,sd.2.2.1,sd.2.2.2)) λtc=>
alt (λba=>Ob (.inl (ba.1,ba.2.1,ba.2.2.2.2.2.2.2.2.2.2.2.2.1,ba.2.2.2.2.2.2.2.2.2.2.2.2.2))) (λbb=>Ob (.inr bb.1)) tc) (Ob (.inr sd.1))) big ([],IntKind.u64.wrap (x7-1),((mget ta (IntKind.u64.wrap (x7-1))).getD (0,0,())).1,((mget ta (IntKind.u64.wrap (x7-1))).getD (0,0,())).2.1)) λtd=>
Ob (td,0))))
def zhW (a:List Task) (d:Yard) (b:List (List Int)) (c:zeY):Option (List Int×Int):=
Zb (zfl a d b c) λy1=>
cond (!y1.2) (Ob ([],2)) (Zb (mkO 1 (zq a) (Oc:Bool)) λx3=>
Zb y1.1 λp5=>
Zb (zdn p5) λy6=>
Zb (iter (σ:=(Int×List Bool)) (τ:=List Bool) (λsb=>
cond (decide (sb.1<zq y6)) (Zb (idx y6 sb.1) λxa=>
Zb y1.1 λpa=>
Zb (zdp pa (([xa],()):Duty)) λya=>
cond (zq ya==0) (Zb (idx b xa.1) λxe=>
Zb (slO xe xa.2.1 (w64 (xa.2.2.1+1))) λxb=>
Zb (iter (σ:=(Int×List Bool)) (τ:=List Bool) (λsc=>
cond (decide (sc.1<zq xb)) (Zb (idx xb sc.1) λxd=>
Zb (idx sc.2 xd) λxh=>
Ob (.inl (w64 (sc.1+1),(sc.2).set (Int.toNat xd) Od))) (Ob (.inr sc.2))) big (0,sb.2)) λtb=>
Ob (.inl (w64 (sb.1+1),tb))) (Ob (.inl (w64 (sb.1+1),sb.2)))) (Ob (.inr sb.2))) big (0,x3)) λta=>
Zb (iter (σ:=(List Int×Int)) (τ:=List Int) (λsa=>
cond (decide (sa.2<zq ta)) (Zb (idx ta sa.2) λxf=>
cond (!xf) (Zb (zcY 8 sa.1 ([sa.2])) λxg=>
Ob (.inl (xg,w64 (sa.2+1)))) (Ob (.inl (sa.1,w64 (sa.2+1))))) (Ob (.inr sa.1))) big ([],0)) λtc=>
Ob (tc,0))
def zee (a:List Int) (b:List Int):Option Bool:=
cond ((zq a)!=zq b) (Ob Oc) (Zb (iter (σ:=Int) (τ:=Unit⊕Bool) (λs8=>
cond (decide (s8<zq a)) (Zb (idx a s8) λxa=>
Zb (idx b s8) λxb=>
cond (xa !=xb) (Ob (.inr (.inr Oc))) (Ob (.inl (w64 (s8+1))))) (Ob (.inr (.inl ())))) big 0) λta=>
alt (λbb=>Ob Od) (λba=>Ob ba) ta)
def zgF (a:List (List Int)) (b:List (List Int)):Option Bool:=
cond ((zq a)!=zq b) (Ob Oc) (Zb (iter (σ:=Int) (τ:=Unit⊕Bool) (λsa=>
cond (decide (sa<zq a)) (Zb (idx a sa) λxa=>
Zb (idx b sa) λxb=>
Zb (zee xa xb) λya=>
cond (!ya) (Ob (.inr (.inr Oc))) (Ob (.inl (w64 (sa+1))))) (Ob (.inr (.inl ())))) big 0) λta=>
alt (λbb=>Ob Od) (λba=>Ob ba) ta)
def zf3 (a:Duty) (b:Duty):Option Bool:=
cond ((zq a.1)!=zq b.1) (Ob Oc) (Zb (iter (σ:=Int) (τ:=Unit⊕Bool) (λs8=>
cond (decide (s8<zq a.1)) (Zb (idx a.1 s8) λxa=>
Zb (idx b.1 s8) λxb=>
cond (xa !=xb) (Ob (.inr (.inr Oc))) (Ob (.inl (w64 (s8+1))))) (Ob (.inr (.inl ())))) big 0) λta=>
alt (λbb=>Ob Od) (λba=>Ob ba) ta)
def zgG (a:List Duty) (b:List Duty):Option Bool:=
cond ((zq a)!=zq b) (Ob Oc) (Zb (iter (σ:=Int) (τ:=Unit⊕Bool) (λsa=>
cond (decide (sa<zq a)) (Zb (idx a sa) λxa=>
Zb (idx b sa) λxb=>
Zb (zf3 xa xb) λya=>
cond (!ya) (Ob (.inr (.inr Oc))) (Ob (.inl (w64 (sa+1))))) (Ob (.inr (.inl ())))) big 0) λta=>
alt (λbb=>Ob Od) (λba=>Ob ba) ta)
def zcy :Option Bool:=
Zb zfI λy1=>
Zb (zdu y1.1 y1.2.1) λy4=>
Zb (zgE y1.1 y1.2.1 ([[0,2,4],[1,3]]) y1.2.2) λy7=>
Zb (zhW y1.1 y1.2.1 ([[0,2,4],[1,3]]) (129,y1.2.2.2.1,y1.2.2.2.2.1,y1.2.2.2.2.2.1,y1.2.2.2.2.2.2.1,y1.2.2.2.2.2.2.2.1,())) λy9=>
Zb (cond (y4.2.2 !=0) (Ob Od) (cond (y7.2 !=0) (Ob Od) (Ob (y9.2 !=0)))) λca=>
cond ca (Ob Oc) (Zb (Zb (zgF y4.1 ([[0,2,4],[1,3]])) λya=>
cond ya (Zb (zee y4.2.1.1 ([0,1])) λyb=>
cond yb (Zb (zee y4.2.1.2.1 ([4])) λyc=>
cond yc (Zb (zgG y7.1 ([(([((0,0,1,()):z4)],()):Duty),(([((1,0,1,()):z4),((0,2,2,()):z4)],()):Duty)])) λyd=>
cond yd (Zb (zee y9.1 ([1,3])) λye=>
Ob ye) (Ob Oc)) (Ob Oc)) (Ob Oc)) (Ob Oc)) λcc=>
Ob cc)
def zT (c:Int) (b:Int) (a:Int):Option Bool:=
Zb (cond (decide (c>=b)) (Ob (decide (c<=a))) (Ob Oc)) λc4=>
Ob c4
def zb9 (a:Line):Option (List Course):=
Ob ([a.1,a.2.1]:List Course)
def zV (c:Int) (b:Int) (a:Int):Option Bool:=
Zb (cond (decide (c>=b)) (Ob (decide (c<=a))) (Ob Oc)) λc4=>
Ob c4
def zaB (a:List zd5) (b:(zd5->Option Bool)):Option Int:=
Zb (iter (σ:=Int) (τ:=Unit⊕Int) (λs5=>
cond (decide (s5<zq a)) (Zb (idx a s5) λx8=>
Zb (b x8) λy9=>
cond y9 (Ob (.inr (.inr s5))) (Ob (.inl (w64 (s5+1))))) (Ob (.inr (.inl ())))) big 0) λta=>
alt (λbb=>Ob (-1)) (λba=>Ob ba) ta
def zan (b:List zd5) (a:(zd5->Option Bool)):Option Bool:=
Zb (zaB b a) λy1=>
Ob (decide (y1>=0))
def zc4 (a:Spot):Option Bool:=
Zb (Zb (zV a.1 (-10000000) 10000000) λy5=>
cond y5 (Zb (zV a.2.1 (-10000000) 10000000) λy7=>
Ob y7) (Ob Oc)) λc4=>
Ob c4
def zfm :Option (List Int):=
Ob (List.replicate 1 0++([1,2,4,3,3,3]:List Int))
def zeZ (a:zd5):Option Bool:=
Zb (cond (decide (a.2.1<1)) (Ob Od) (cond (decide (a.2.1>6)) (Ob Od) (Zb (zc4 a.1) λya=>
cond (!ya) (Ob Od) (Zb zfm λyb=>
Zb (idx yb a.2.1) λxa=>
Ob ((zq a.2.2.1)!=xa))))) λca=>
cond ca (Ob Oc) (Zb (cond (a.2.1==5) (Ob Od) (Ob (a.2.1==6))) λcc=>
cond cc (Zb (zV a.2.2.2.1 1 2) λyc=>
Ob yc) (Ob (a.2.2.2.1==0)))
def zfJ (a:zd5):Option Bool:=
Zb (zeZ a) λy1=>
Ob (!y1)
def zaC (a:List Rail) (b:(Rail->Option Bool)):Option Int:=
Zb (iter (σ:=Int) (τ:=Unit⊕Int) (λs5=>
cond (decide (s5<zq a)) (Zb (idx a s5) λx8=>
Zb (b x8) λy9=>
cond y9 (Ob (.inr (.inr s5))) (Ob (.inl (w64 (s5+1))))) (Ob (.inr (.inl ())))) big 0) λta=>
alt (λbb=>Ob (-1)) (λba=>Ob ba) ta
def zao (b:List Rail) (a:(Rail->Option Bool)):Option Bool:=
Zb (zaC b a) λy1=>
Ob (decide (y1>=0))
def zax (a:Int):Option (List Spot):=
cond (decide (a<0)) Oe (cond (decide (w64 (a-w64 (0-0))>0)) (Zb (zoW 16 (w64 (a-w64 (0-0))) ((0,0,()):Spot)) λx3=>
Zb (slz x3) λx5=>
Ob ([]:List Spot)) (Ob ([])))
def zap (a:List (List Spot)):Option (List Spot):=
Zb (iter (σ:=(Int×Int)) (τ:=Int) (λs4=>
cond (decide (s4.2<zq a)) (Zb (idx a s4.2) λx7=>
cond (decide (w64 (s4.1+zq x7)<0)) Oe (Ob (.inl (w64 (s4.1+zq x7),w64 (s4.2+1))))) (Ob (.inr s4.1))) big (0,0)) λt9=>
Zb (zax t9) λya=>
Zb (iter (σ:=(List Spot×Int)) (τ:=List Spot) (λsa=>
cond (decide (sa.2<zq a)) (Zb (idx a sa.2) λxa=>
Zb (zcY 16 sa.1 xa) λxb=>
Ob (.inl (xb,w64 (sa.2+1)))) (Ob (.inr sa.1))) big (ya,0)) λta=>
Ob ta
def zef (b:Plan) (a:Rail):Option (List Spot):=
Zb (idx b.1 a.1) λx5=>
Zb (idx b.1 a.2.1) λx6=>
Zb (zap ([[x5.1],a.2.2.1,[x6.1]])) λy7=>
Ob y7
def ze0 (a:Int):Option Int:=
Zb (FloatKind.f64.format.sqrt (FloatKind.f64.nearest a)) λx1=>
Zb (f2i x1) λx2=>
Zb (iter (σ:=Int) (τ:=Int) (λs4=>
cond (decide (w64 (s4*s4)>a)) (Ob (.inl (w64 (s4-1)))) (Ob (.inr s4))) big x2) λt7=>
Zb (iter (σ:=Int) (τ:=Int) (λsa=>
cond (decide (w64 (w64 (sa+1)*w64 (sa+1))<=a)) (Ob (.inl (w64 (sa+1)))) (Ob (.inr sa))) big t7) λta=>
Ob ta
def zc5 (a:Spot) (b:Spot):Option Int:=
Zb (ze0 (w64 (w64 (w64 (a.1-b.1)*w64 (a.1-b.1))+w64 (w64 (a.2.1-b.2.1)*w64 (a.2.1-b.2.1))))) λy1=>
Ob y1
def ze1 (b:Plan) (a:Rail):Option Bool:=
Zb (Zb (zV a.1 0 (w64 (zq b.1-1))) λyb=>
cond (!yb) (Ob Od) (Zb (zV a.2.1 0 (w64 (zq b.1-1))) λyc=>
cond (!yc) (Ob Od) (cond (decide (zq a.2.2.1>30)) (Ob Od) (Zb (zV a.2.2.2.1 1 50000) λyd=>
cond (!yd) (Ob Od) (Zb (zV a.2.2.2.2.1 (-120) 120) λye=>
Ob (!ye)))))) λc9=>
cond c9 (Ob Oc) (Zb (zef b a) λya=>
Zb (iter (σ:=Int) (τ:=Unit⊕Bool) (λsa=>
cond (decide (sa<zq ya)) (Zb (idx ya sa) λxa=>
Zb (zc4 xa) λyf=>
cond (!yf) (Ob (.inr (.inr Oc))) (cond (decide (sa>0)) (Zb (idx ya (w64 (sa-1))) λxb=>
Zb (zc5 xb xa) λyg=>
Zb (zV yg 1 1000000) λyh=>
cond (!yh) (Ob (.inr (.inr Oc))) (Ob (.inl (w64 (sa+1))))) (Ob (.inl (w64 (sa+1)))))) (Ob (.inr (.inl ())))) big 0) λta=>
alt (λbb=>Ob Od) (λba=>Ob ba) ta)
def zev (a:Rail) (b:Plan):Option Bool:=
Zb (ze1 b a) λy1=>
Ob (!y1)
def zcH (b:Plan) (a:zA):Option Int:=
cond a.2.1 (Zb (idx b.2.1 a.1) λx2=>
Ob x2.2.1) (Zb (idx b.2.1 a.1) λx3=>
Ob x3.1)
def zdJ (a:Plan):Option Int:=
Zb (Zb (zV (zq a.1) 1 300) λy5=>
cond (!y5) (Ob Od) (Zb (zV (zq a.2.1) 1 400) λy7=>
Ob (!y7))) λc4=>
cond c4 (Ob 2) (Zb (Zb (zan a.1 (λx=>zfJ x)) λya=>
cond ya (Ob Od) (Zb (zao a.2.1 (λx=>zev x a)) λyb=>
Ob yb)) λca=>
cond ca (Ob 2) (Zb (iter (σ:=(Int×List (zA×Bool))) (τ:=List (zA×Bool)⊕Int) (λsb=>
cond (decide (sb.1<zq a.1)) (Zb (idx a.1 sb.1) λxb=>
Zb (iter (σ:=(Int×List (zA×Bool))) (τ:=List (zA×Bool)⊕(Int×List (zA×Bool))) (λsa=>
cond (decide (sa.1<zq xb.2.2.1)) (Zb (idx xb.2.2.1 sa.1) λxa=>
Zb (zV xa.1 0 (w64 (zq a.2.1-1))) λyc=>
cond (!yc) (Ob (.inr (.inr (2,sa.2)))) (cond ((mget sa.2 xa).getD Oc) (Ob (.inr (.inr (2,sa.2)))) (Zb (zcH a xa) λyd=>
cond (yd !=sb.1) (Ob (.inr (.inr (2,sa.2)))) (Ob (.inl (w64 (sa.1+1),mset sa.2 xa Od)))))) (Ob (.inr (.inl sa.2)))) big (0,sb.2)) λta=>
alt (λba=>Ob (.inl (w64 (sb.1+1),ba))) (λbb=>Ob (.inr (.inr bb.1))) ta) (Ob (.inr (.inl sb.2)))) big (0,([]:List (zA×Bool)))) λtb=>
alt (λbc=>Zb (zuN bc) λxd=>
cond (xd !=w64 (2*zq a.2.1)) (Ob 2) (Ob 0)) (λbd=>Ob bd) tb))
def zeg (a:Plan):Option (Option zbn×Bool):=
Zb (zdJ a) λy1=>
cond (y1 !=0) (Ob ((Oe:Option zbn),Oc)) (Zb (iter (σ:=(Int×List Int)) (τ:=List Int) (λsc=>
cond (decide (sc.1<zq a.2.1)) (Zb (idx a.2.1 sc.1) λxb=>
Zb (zef a xb) λya=>
Zb (iter (σ:=(Int×Int)) (τ:=Int) (λsa=>
cond (decide (sa.2<zq ya)) (Zb (idx ya (w64 (sa.2-1))) λxd=>
Zb (idx ya sa.2) λxe=>
Zb (zc5 xd xe) λyb=>
Ob (.inl (w64 (sa.1+yb),w64 (sa.2+1)))) (Ob (.inr sa.1))) big (0,1)) λta=>
Zb (zcY 8 sc.2 ([ta])) λxf=>
Ob (.inl (w64 (sc.1+1),xf))) (Ob (.inr sc.2))) big (0,[])) λtb=>
Zb (iter (σ:=(Int×List (zA×Int))) (τ:=List (zA×Int)) (λsd=>
cond (decide (sd.1<zq a.1)) (Zb (idx a.1 sd.1) λxa=>
Zb (iter (σ:=(Int×List (zA×Int))) (τ:=List (zA×Int)) (λsb=>
cond (decide (sb.1<zq xa.2.2.1)) (Zb (idx xa.2.2.1 sb.1) λxg=>
Ob (.inl (w64 (sb.1+1),mset sb.2 xg sb.1))) (Ob (.inr sb.2))) big (0,sd.2)) λtc=>
Ob (.inl (w64 (sd.1+1),tc))) (Ob (.inr sd.2))) big (0,([]:List (zA×Int)))) λtd=>
Ob (Ob ((a.1,a.2.1,()),tb,td,()),Od))
def zbE (b:zbn) (a:zad):Option Bool:=
Zb (zV a.1 0 (w64 (zq b.1.2.1-1))) λy2=>
Ob y2
def zew (a:zad):Option zA:=
Ob ((a.1,!a.2.1,()):zA)
def zfK (c:zaG) (a:Int) (b:Int):Option Bool:=
Ob Oc
def ze2 (c:zaG) (a:Int) (b:Int):Option Bool:=
Ob (a !=b)
def zbP (c:zaG) (a:Int) (b:Int):Option Bool:=
Zb (cond (a !=b) (Zb (zri (w64 (a+b)) 2) λx6=>
Ob (x6==0)) (Ob Oc)) λc4=>
Ob c4
def zcg (c:zaG) (a:Int) (b:Int):Option Bool:=
Zb (cond (a !=b) (cond (a==0) (Ob Od) (Ob (b==0))) (Ob Oc)) λc4=>
Ob c4
def zbx (c:zaG) (a:Int) (b:Int):Option Bool:=
Zb (cond (a !=0) (cond (b==0) (Ob Od) (cond (a==0) (Ob (b==c.1.2.2.2.1)) (Ob Oc))) (cond (a==0) (Ob (b==c.1.2.2.2.1)) (Ob Oc))) λc5=>
Ob c5
def zby (c:zaG) (a:Int) (b:Int):Option Bool:=
Zb (cond (a==0) (cond (b==c.1.2.2.2.1) (Ob Od) (cond (a==c.1.2.2.2.1) (Ob (b==0)) (Ob Oc))) (cond (a==c.1.2.2.2.1) (Ob (b==0)) (Ob Oc))) λc5=>
Ob c5
def zbt (c:zaG) (a:Int) (b:Int):Option Bool:=
Zb (idx (List.replicate 1 (λ_=>Oe)++([(λx=>zfK x.1 x.2.1 x.2.2),(λx=>ze2 x.1 x.2.1 x.2.2),(λx=>zbP x.1 x.2.1 x.2.2),(λx=>zcg x.1 x.2.1 x.2.2),(λx=>zbx x.1 x.2.1 x.2.2),(λx=>zby x.1 x.2.1 x.2.2)]:List ((zaG×Int×Int)->Option Bool))) c.1.2.1) λx4=>
Zb (x4 (c,a,b)) λy5=>
Ob y5
def zdU (a:zad):Option Int:=
cond a.2.1 (Ob (w64 (w64 (2*a.1)+1))) (Ob (w64 (2*a.1)))
def zbc (a:Int) (b:Int):Option Bool:=
Zb (Zb (zbo a) λy6=>
cond y6 (Zb (zbo b) λy8=>
cond (!y8) (Ob Od) (Ob (decide (a<b)))) (Ob (decide (a<b)))) λc5=>
Ob c5
def zab   (a:List Int) (b:Int) (c:Int):Option (List Int):=
Zb (iter (σ:=(Int×List Int)) (τ:=List Int) (λsb=>
cond (decide (sb.1<c)) (Zb (iter (σ:=(Int×List Int)) (τ:=List Int) (λsa=>
cond (decide (sa.1>b)) (Zb (idx sa.2 sa.1) λxb=>
Zb (idx sa.2 (w64 (sa.1-1))) λxd=>
Zb (zbc xb xd) λya=>
cond ya (Zb (idx sa.2 (w64 (sa.1-1))) λxa=>
Zb (idx sa.2 sa.1) λxe=>
Zb (idx sa.2 sa.1) λxf=>
Zb (idx ((sa.2).set (Int.toNat sa.1) xa) (w64 (sa.1-1))) λxg=>
Ob (.inl (w64 (sa.1-1),((sa.2).set (Int.toNat sa.1) xa).set (Int.toNat (w64 (sa.1-1))) xe))) (Ob (.inr sa.2))) (Ob (.inr sa.2))) big (sb.1,sb.2)) λta=>
Ob (.inl (w64 (sb.1+1),ta))) (Ob (.inr sb.2))) big (w64 (b+1),a)) λtb=>
Ob tb
def zeM (a:Int):Option Int:=
cond (decide (a>=4294967296)) (Zb (zhT .u64 a 32) λx2=>
cond (decide (x2>=65536)) (Zb (zhT .u64 x2 16) λx4=>
cond (decide (x4>=256)) (Zb (zhT .u64 x4 8) λx6=>
Zb (idx zdM (IntKind.u8.wrap x6)) λx7=>
Ob (w64 (w64 (w64 (32+16)+8)+w64 x7))) (Zb (idx zdM (IntKind.u8.wrap x4)) λx8=>
Ob (w64 (w64 (32+16)+w64 x8)))) (cond (decide (x2>=256)) (Zb (zhT .u64 x2 8) λxb=>
Zb (idx zdM (IntKind.u8.wrap xb)) λxd=>
Ob (w64 (w64 (32+8)+w64 xd))) (Zb (idx zdM (IntKind.u8.wrap x2)) λxe=>
Ob (w64 (32+w64 xe))))) (cond (decide (a>=65536)) (Zb (zhT .u64 a 16) λxa=>
cond (decide (xa>=256)) (Zb (zhT .u64 xa 8) λxf=>
Zb (idx zdM (IntKind.u8.wrap xf)) λxg=>
Ob (w64 (w64 (w64 (0+16)+8)+w64 xg))) (Zb (idx zdM (IntKind.u8.wrap xa)) λxh=>
Ob (w64 (w64 (0+16)+w64 xh)))) (cond (decide (a>=256)) (Zb (zhT .u64 a 8) λxi=>
Zb (idx zdM (IntKind.u8.wrap xi)) λxj=>
Ob (w64 (w64 (0+8)+w64 xj))) (Zb (idx zdM (IntKind.u8.wrap a)) λxk=>
Ob (w64 (0+w64 xk)))))
def zex (a:Int):Option Int:=
Zb (zeM a) λy2=>
Ob y2
def zbp   (b:List Int) (d:Int) (c:Int) (a:Int):Option (List Int):=
Zb (iter (σ:=(Int×Int×Int×Bool×Bool×List Int)) (τ:=List Int) (λsa=>
cond (decide (w64 (sa.2.1-sa.1)<=12)) (Zb (zab sa.2.2.2.2.2 sa.1 sa.2.1) λya=>
Ob (.inr ya)) (cond (sa.2.2.1==0) Oe (cond (!sa.2.2.2.1) Oe Oe))) big (d,c,a,Od,Od,b)) λta=>
Ob ta
def zbQ   (a:List Int):Option (List Int):=
Zb (zex (IntKind.u64.wrap (zq a))) λy1=>
Zb (zbp a 0 (zq a) y1) λy2=>
Ob y2
def ze3 (a:Int):Option zad:=
Zb (zf6 .i64 a 2) λx2=>
Zb (zri a 2) λx3=>
Ob ((x2,(x3==1),()):zad)
def zbz {σ τ:Type} (step:σ->zad->Option (σ⊕τ)) (s_:σ) (a:zbn) (b:zad):Option (σ⊕τ):=
Zb (zew b) λy5=>
Zb (zcH a.1 y5) λy6=>
Zb (idx a.1.1 y6) λx7=>
Zb (iter (σ:=(List Int×Int)) (τ:=List Int) (λsa=>
cond (decide (sa.2<zq x7.2.2.1)) (Zb (idx x7.2.2.1 sa.2) λxa=>
Zb (zew b) λyc=>
Zb (zbt ((x7,()):zaG) ((mget a.2.2.1 yc).getD 0) sa.2) λyd=>
cond yd (Zb (zdU ((xa.1,xa.2.1,()):zad)) λye=>
Zb (zcY 8 sa.1 ([ye])) λxb=>
Ob (.inl (xb,w64 (sa.2+1)))) (Ob (.inl (sa.1,w64 (sa.2+1))))) (Ob (.inr sa.1))) big ([],0)) λta=>
Zb (zbQ ta) λyb=>
Zb (iter (σ:=(Int×(σ⊕τ))) (τ:=(σ⊕τ)⊕(σ⊕τ)) (λsb=>
cond (decide (sb.1<zq yb)) (Zb (idx yb sb.1) λxd=>
Zb (ze3 xd) λyf=>
Zb (goL sb.2) λsc=>
Zb (step sc yf) λya=>
cond (!(ya).isLeft) (Ob (.inr (.inr ya))) (Ob (.inl (w64 (sb.1+1),ya)))) (Ob (.inr (.inl sb.2)))) big (0,(.inl s_))) λtb=>
alt (λba=>Ob ba) (λbb=>Ob bb) tb
def zcO (b:zbn) (a:zad):Option (zbn×zad):=
Ob (b,a)
def za2 (b:zbn) (a:zad) (c:zad):Option Bool:=
Zb (zcO b a) λy2=>
Zb (zbz (σ:=Bool) (τ:=Bool) (λs8 x3=>
cond (x3==c) (Ob (.inr Od)) (Ob (.inl s8))) Oc y2.1 y2.2) λta=>
alt (λbb=>Ob Oc) (λba=>Ob ba) ta
def zch (b:zbn) (a:List zad):Option Bool:=
Zb (iter (σ:=Int) (τ:=Unit⊕Bool) (λsa=>
cond (decide (sa<zq a)) (Zb (idx a sa) λxa=>
Zb (zbE b xa) λya=>
cond (!ya) (Ob (.inr (.inr Oc))) (cond (decide (sa>0)) (Zb (idx a (w64 (sa-1))) λxb=>
Zb (za2 b xb xa) λyb=>
cond (!yb) (Ob (.inr (.inr Oc))) (Ob (.inl (w64 (sa+1))))) (Ob (.inl (w64 (sa+1)))))) (Ob (.inr (.inl ())))) big 0) λta=>
alt (λbb=>Zb (zV (zq a) 1 2000) λyc=>
Ob yc) (λba=>Ob ba) ta
def zbd (b:zbn) (a:List zad):Option Int:=
Zb (iter (σ:=(Int×Int)) (τ:=Int) (λs6=>
cond (decide (s6.2<zq a)) (Zb (idx a s6.2) λx9=>
Zb (idx b.2.1 x9.1) λxa=>
Ob (.inl (w64 (s6.1+xa),w64 (s6.2+1)))) (Ob (.inr s6.1))) big (0,0)) λta=>
Ob ta
def zca (b:Plan) (a:List zad):Option (Int×Int):=
Zb (zeg b) λy1=>
Zb (cond (!y1.2) (Ob Od) (Zb y1.1 λp7=>
Zb (zch p7 a) λy8=>
Ob (!y8))) λc5=>
cond c5 (Ob (0,2)) (Zb y1.1 λpa=>
Zb (zbd pa a) λya=>
Ob (ya,0))
def zW (c:Int) (b:Int) (a:Int):Option Bool:=
Zb (cond (decide (c>=b)) (Ob (decide (c<=a))) (Ob Oc)) λc4=>
Ob c4
def zfc (a:Int):Option Bool:=
Zb (zW a 1 1000) λy1=>
Ob (!y1)
def zdV (a:Train):Option Int:=
Zb (Zb (zW a.1 1000 80000) λya=>
cond (!ya) (Ob Od) (Zb (zW a.2.1 1 60000) λyb=>
cond (!yb) (Ob Od) (Zb (zW a.2.2.1 1 25000) λyc=>
cond (!yc) (Ob Od) (Zb (zW a.2.2.2.1 1 200000) λyd=>
cond (!yd) (Ob Od) (Zb (zW a.2.2.2.2.1 1 200000) λye=>
cond (!ye) (Ob Od) (Zb (zW a.2.2.2.2.2.1 1 2000000) λyf=>
cond (!yf) (Ob Od) (Zb (zW a.2.2.2.2.2.2.1 0 100000) λyg=>
cond (!yg) (Ob Od) (Zb (zW a.2.2.2.2.2.2.2.1 0 10000) λyh=>
cond (!yh) (Ob Od) (Zb (zW a.2.2.2.2.2.2.2.2.1 0 100) λyi=>
Ob (!yi)))))))))) λca=>
cond ca (Ob 2) (Zb (Zb (zW (zq a.2.2.2.2.2.2.2.2.2.1) 1 8) λyj=>
cond (!yj) (Ob Od) (Zb (zJ a.2.2.2.2.2.2.2.2.2.1 (λx=>zfc x)) λyk=>
Ob yk)) λcc=>
cond cc (Ob 2) (Ob 0))
def zdw (b:Train) (a:Int):Option (Option zaw×Bool):=
Zb (Zb (zdV b) λy5=>
cond (y5 !=0) (Ob Od) (Zb (zW a 0 (w64 (zq b.2.2.2.2.2.2.2.2.2.1-1))) λy7=>
Ob (!y7))) λc4=>
cond c4 (Ob ((Oe:Option zaw),Oc)) (Ob (Ob ((b,a,()):zaw),Od))
def zb3 (b:Plan) (a:Int):Option (Int×Int):=
Zb (zeg b) λy1=>
Zb (cond (!y1.2) (Ob Od) (Zb y1.1 λp7=>
Zb (zbE p7 ((a,Oc,()):zad)) λy8=>
Ob (!y8))) λc5=>
cond c5 (Ob (0,2)) (Zb y1.1 λpa=>
Zb (idx pa.2.1 a) λxa=>
Ob (xa,0))
def zdW (d:Plan) (b:List zad) (e:Train) (c:Int) (a:List Int):Option (Option zaF×Bool):=
Zb (zdw e c) λy1=>
Zb (zca d b) λy2=>
Zb (cond (!y1.2) (Ob Od) (cond (y2.2 !=0) (Ob Od) (Zb (zW (zq a) 2 100) λyb=>
cond (!yb) (Ob Od) (Zb (idx a 0) λxd=>
cond (decide (xd<e.2.1)) (Ob Od) (Zb (idx a (w64 (zq a-1))) λxe=>
Ob (decide (xe>y2.1))))))) λca=>
cond ca (Ob ((Oe:Option zaF),Oc)) (Zb (iter (σ:=Int) (τ:=Unit⊕(Option zaF×Bool)) (λsb=>
cond (decide (sb<zq a)) (Zb (idx a sb) λxf=>
Zb (idx a (w64 (sb-1))) λxg=>
cond (decide (xf<=xg)) (Ob (.inr (.inr ((Oe:Option zaF),Oc)))) (Ob (.inl (w64 (sb+1))))) (Ob (.inr (.inl ())))) big 1) λta=>
alt (λbd=>Zb y1.1 λpa=>
Zb (iter (σ:=(Int×Int×List Int×List Int×List Int)) (τ:=(List Int×List Int×List Int)⊕(Option zaF×Bool×List Int×List Int×List Int)) (λsa=>
cond (decide (sa.2.1<zq b)) (Zb (idx b sa.2.1) λxb=>
Zb (zb3 d xb.1) λya=>
cond (ya.2 !=0) (Ob (.inr (.inr ((Oe:Option zaF),Oc,sa.2.2.2.2,sa.2.2.2.1,sa.2.2.1)))) (Zb (idx d.2.1 xb.1) λxa=>
cond xb.2.1 (Zb (zcY 8 sa.2.2.2.2 ([w64 (sa.1+ya.1)])) λxh=>
Zb (zcY 8 sa.2.2.2.1 ([xa.2.2.2.1])) λxi=>
Zb (zcY 8 sa.2.2.1 ([w64 (0-xa.2.2.2.2.1)])) λxj=>
Ob (.inl (w64 (sa.1+ya.1),w64 (sa.2.1+1),xj,xi,xh))) (Zb (zcY 8 sa.2.2.2.2 ([w64 (sa.1+ya.1)])) λxk=>
Zb (zcY 8 sa.2.2.2.1 ([xa.2.2.2.1])) λxl=>
Zb (zcY 8 sa.2.2.1 ([xa.2.2.2.2.1])) λxm=>
Ob (.inl (w64 (sa.1+ya.1),w64 (sa.2.1+1),xm,xl,xk))))) (Ob (.inr (.inl (sa.2.2.2.2,sa.2.2.2.1,sa.2.2.1))))) big (0,0,[],[],[])) λtb=>
alt (λba=>Ob (Ob (pa,b,ba.1,ba.2.1,ba.2.2,a,()),Od)) (λbb=>Ob (bb.1,bb.2.1)) tb) (λbc=>Ob (bc.1,bc.2)) ta)
def z5 (b:zaw) (a:ze):Option Int:=
Zb (zf6 .i64 a.2.1 (w64 (10*b.1.1))) λx2=>
Ob x2
def zdq (a:Int):Option Bool:=
Ob (a !=a)
def zK (b:List Int) (a:Int):Option (Int×Bool):=
Zb (iter (σ:=(Int×Int)) (τ:=Int) (λs6=>
cond (decide (s6.1<s6.2)) (Zb (zhT .u64 (IntKind.u64.wrap (w64 (s6.1+s6.2))) 1) λx9=>
Zb (idx b (w64 x9)) λxa=>
Zb (zbc xa a) λya=>
cond ya (Ob (.inl (w64 (w64 x9+1),s6.2))) (Ob (.inl (s6.1,w64 x9)))) (Ob (.inr s6.1))) big (0,zq b)) λta=>
Zb (cond (decide (ta<zq b)) (Zb (idx b ta) λxb=>
cond (xb==a) (Ob (ta,Od)) (Zb (idx b ta) λxd=>
Zb (zdq xd) λyb=>
cond yb (Zb (zdq a) λyc=>
Ob (ta,yc)) (Ob (ta,Oc)))) (Ob (ta,Oc))) λca=>
Ob (ca.1,ca.2)
def zaS (a:zaF) (b:ze):Option Int:=
Zb (z5 a.1 b) λy2=>
Zb (zK a.2.2.1 (w64 (y2+1))) λy3=>
Zb (idx a.2.2.2.2.1 (min y3.1 (w64 (zq a.2.2.2.2.1-1)))) λx5=>
Ob x5
def zbq (a:zaw):Option Int:=
Zb (idx a.1.2.2.2.2.2.2.2.2.2.1 a.2.1) λx3=>
Zb (zf6 .i64 (w64 (w64 (x3*a.1.1)*981)) 100000) λx4=>
Ob x4
def zbg (b:zaw) (d:Int) (a:Int) (c:Int):Option Int:=
cond (decide (a<=0)) (Ob 0) (Zb (zf6 .i64 (w64 (b.1.2.2.2.1*a)) 4) λx4=>
Zb (zbq b) λy5=>
cond (decide (d>0)) (Zb (zf6 .i64 (w64 (1000*b.1.2.2.2.2.2.1)) d) λx7=>
Ob (min (min x4 y5) x7)) (Ob (min x4 y5)))
def za8 (c:zaw) (d:Int) (a:Int) (b:Int):Option Int:=
cond (decide (a>=0)) (Ob 0) (Zb (zf6 .i64 (w64 (c.1.2.2.2.2.1*w64 (0-a))) 4) λx4=>
Zb (zbq c) λy5=>
Ob (min x4 y5))
def zbF (c:zaw) (d:Int) (a:Int) (b:Int):Option Int:=
Zb (zf6 .i64 (w64 (c.1.2.2.2.2.2.2.2.1*d)) 1000) λx2=>
Ob (w64 (c.1.2.2.2.2.2.2.1+x2))
def zbG (c:zaw) (d:Int) (b:Int) (a:Int):Option Int:=
Zb (zf6 .i64 (w64 (w64 (c.1.1*a)*981)) 100000) λx1=>
Ob x1
def zcz (c:zaw) (d:Int) (a:Int) (b:Int):Option (List Int):=
Zb (iter (σ:=(Int×List Int)) (τ:=List Int) (λsa=>
cond (decide (sa.1<4)) (Zb (idx ([(λx=>zbg c x.1 x.2.1 x.2.2),(λx=>za8 c x.1 x.2.1 x.2.2),(λx=>zbF c x.1 x.2.1 x.2.2),(λx=>zbG c x.1 x.2.1 x.2.2)]:List ((Int×Int×Int)->Option Int)) sa.1) λxa=>
Zb (xa (d,a,b)) λya=>
Zb (idx sa.2 sa.1) λxb=>
Ob (.inl (w64 (sa.1+1),(sa.2).set (Int.toNat sa.1) ya))) (Ob (.inr sa.2))) big (0,List.replicate 4 (0:Int))) λta=>
Ob ta
def zbu (b:zaw) (a:ze):Option Int:=
Zb (zf6 .i64 a.1 b.1.1) λx2=>
Ob x2
def zaI (b:zaw) (a:ze) (c:Int) (d:Int):Option (zbl×Bool):=
Zb (zbu b a) λy2=>
Zb (zcz b y2 c d) λy3=>
Zb (idx y3 0) λx5=>
Zb (idx y3 1) λx6=>
Zb (idx y3 2) λx7=>
Zb (idx y3 3) λx8=>
Zb (cond (decide (w64 (a.1+w64 (100*w64 (w64 (w64 (x5-x6)-x7)-x8)))<0)) (Ob Od) (cond (a.1==0) (Ob (decide (w64 (w64 (w64 (x5-x6)-x7)-x8)<=0))) (Ob Oc))) λca=>
cond ca (Zb (idx y3 0) λxa=>
Zb (idx y3 1) λxb=>
Zb (idx y3 2) λxd=>
Zb (idx y3 3) λxe=>
Zb (idx y3 0) λxf=>
Zb (zf6 .i64 (w64 (w64 (w64 (xf*0)+w64 (1000*b.1.1))-1)) (w64 (1000*b.1.1))) λxg=>
Zb (idx y3 1) λxh=>
Zb (zf6 .i64 (w64 (w64 (xh*0)*b.1.2.2.2.2.2.2.2.2.1)) (w64 (100000*b.1.1))) λxi=>
Ob (((0,w64 (a.2.1+0),()),(w64 (w64 (200*xa)*0),w64 (w64 (200*xb)*0),w64 (w64 (200*xd)*0),w64 (w64 (200*xe)*0),0,w64 (a.1*a.1),()),xg,xi,()),decide (0<=w64 (25000*b.1.1)))) (Zb (idx y3 0) λxj=>
Zb (idx y3 1) λxk=>
Zb (idx y3 2) λxl=>
Zb (idx y3 3) λxm=>
Zb (idx y3 0) λxn=>
Zb (zf6 .i64 (w64 (w64 (w64 (xn*w64 (a.1+w64 (100*w64 (w64 (w64 (x5-x6)-x7)-x8))))+w64 (1000*b.1.1))-1)) (w64 (1000*b.1.1))) λxo=>
Zb (idx y3 1) λxp=>
Zb (zf6 .i64 (w64 (w64 (xp*w64 (a.1+w64 (100*w64 (w64 (w64 (x5-x6)-x7)-x8))))*b.1.2.2.2.2.2.2.2.2.1)) (w64 (100000*b.1.1))) λxq=>
Ob (((w64 (a.1+w64 (100*w64 (w64 (w64 (x5-x6)-x7)-x8))),w64 (a.2.1+w64 (a.1+w64 (100*w64 (w64 (w64 (x5-x6)-x7)-x8)))),()),(w64 (w64 (200*xj)*w64 (a.1+w64 (100*w64 (w64 (w64 (x5-x6)-x7)-x8)))),w64 (w64 (200*xk)*w64 (a.1+w64 (100*w64 (w64 (w64 (x5-x6)-x7)-x8)))),w64 (w64 (200*xl)*w64 (a.1+w64 (100*w64 (w64 (w64 (x5-x6)-x7)-x8)))),w64 (w64 (200*xm)*w64 (a.1+w64 (100*w64 (w64 (w64 (x5-x6)-x7)-x8)))),w64 (w64 (10000*w64 (w64 (w64 (x5-x6)-x7)-x8))*w64 (w64 (w64 (x5-x6)-x7)-x8)),0,()),xo,xq,()),decide (w64 (a.1+w64 (100*w64 (w64 (w64 (x5-x6)-x7)-x8)))<=w64 (25000*b.1.1))))
def zcA (a:zaF) (b:ze):Option Int:=
Zb (z5 a.1 b) λy2=>
Zb (zK a.2.2.1 (w64 (w64 (y2-a.1.1.2.1)+1))) λy3=>
Zb (iter (σ:=(Int×Int)) (τ:=Int) (λs8=>
cond (decide (s8.2<zq a.2.2.1)) (Zb (idx a.2.2.2.1 s8.2) λxa=>
Zb (idx a.2.2.1 s8.2) λxb=>
cond (decide (xb>=y2)) (Ob (.inr (min s8.1 xa))) (Ob (.inl (min s8.1 xa,w64 (s8.2+1))))) (Ob (.inr s8.1))) big (a.1.1.2.2.1,y3.1)) λta=>
Ob ta
def zbH (c:zaF) (b:ze) (a:Int):Option Bool:=
Zb (Zb (z5 c.1 b) λya=>
cond (decide (ya<=a)) (Zb (zbu c.1 b) λyb=>
Zb (zcA c b) λyc=>
Ob (decide (yb<=yc))) (Ob Oc)) λc9=>
Ob c9
def zbe {σ τ:Type} (step:σ->ze->Option (σ⊕τ)) (s_:σ) (a:ze) (b:zaw) (c:(ze->Option Int)):Option ((σ⊕τ)×ze):=
Zb (iter (σ:=(Int×(σ⊕τ)×Int×Int)) (τ:=((σ⊕τ)×Int×Int)⊕((σ⊕τ)×Int×Int)) (λsa=>
cond (decide (sa.1<36000)) (cond (sa.2.2.1==0) (Ob (.inr (.inr (sa.2.1,sa.2.2.1,sa.2.2.2)))) (Zb (c (sa.2.2.1,sa.2.2.2,())) λyc=>
Zb (zaI b (sa.2.2.1,sa.2.2.2,()) (-4) yc) λya=>
cond (!ya.2) (Ob (.inr (.inr (sa.2.1,sa.2.2.1,sa.2.2.2)))) (Zb (goL sa.2.1) λsb=>
Zb (step sb ya.1.1) λyb=>
cond (!(yb).isLeft) (Ob (.inr (.inr (yb,ya.1.1.1,ya.1.1.2.1)))) (Ob (.inl (w64 (sa.1+1),yb,ya.1.1.1,ya.1.1.2.1)))))) (Ob (.inr (.inl (sa.2.1,sa.2.2.1,sa.2.2.2))))) big (0,(.inl s_),a.1,a.2.1)) λta=>
alt (λba=>Ob (ba.1,(ba.2.1,ba.2.2,()))) (λbb=>Ob (bb.1,(bb.2.1,bb.2.2,()))) ta
def zb1 (b:zaw) (c:ze) (a:(ze->Option Int)):Option (ze×zaw×(ze->Option Int)):=
Ob (c,b,a)
def zcb (c:zaF) (b:ze) (a:Int):Option Bool:=
Zb (zbH c b a) λy2=>
cond (!y2) (Ob Oc) (Zb (zb1 c.1 b (λx=>zaS c x)) λy7=>
Zb (zbe (σ:=(Int×Int)) (τ:=(Int×Int)) (λsa x9=>
Zb (zbH c x9 a) λya=>
cond (!ya) (Ob (.inr (sa.1,sa.2))) (Ob (.inl (x9.1,x9.2.1)))) (b.1,b.2.1) y7.1 y7.2.1 y7.2.2) λta=>
alt (λba=>Ob (ba.1==0)) (λbb=>Ob Oc) ta.1)
def zaZ (b:zaF) (c:ze) (a:Int):Option (zbl×Bool):=
Zb (zaS b c) λy2=>
Zb (iter (σ:=(Bool×Int×Int×Int×Int×Int×Int×Int×Int×Int×Int×Int)) (τ:=(Bool×Int×Int×Int×Int×Int×Int×Int×Int×Int×Int)) (λsa=>
cond (decide (sa.2.1<9)) (Zb (zaI b.1 c (w64 (4-sa.2.1)) y2) λya=>
cond ya.2 (Zb (zcb b ya.1.1 a) λyb=>
cond yb (Ob (.inr (Od,ya.1.1.1,ya.1.1.2.1,ya.1.2.1.1,ya.1.2.1.2.1,ya.1.2.1.2.2.1,ya.1.2.1.2.2.2.1,ya.1.2.1.2.2.2.2.1,ya.1.2.1.2.2.2.2.2.1,ya.1.2.2.1,ya.1.2.2.2.1))) (Ob (.inl (sa.1,w64 (sa.2.1+1),sa.2.2.1,sa.2.2.2.1,sa.2.2.2.2.1,sa.2.2.2.2.2.1,sa.2.2.2.2.2.2.1,sa.2.2.2.2.2.2.2.1,sa.2.2.2.2.2.2.2.2.1,sa.2.2.2.2.2.2.2.2.2.1,sa.2.2.2.2.2.2.2.2.2.2.1,sa.2.2.2.2.2.2.2.2.2.2.2)))) (Ob (.inl (sa.1,w64 (sa.2.1+1),sa.2.2.1,sa.2.2.2.1,sa.2.2.2.2.1,sa.2.2.2.2.2.1,sa.2.2.2.2.2.2.1,sa.2.2.2.2.2.2.2.1,sa.2.2.2.2.2.2.2.2.1,sa.2.2.2.2.2.2.2.2.2.1,sa.2.2.2.2.2.2.2.2.2.2.1,sa.2.2.2.2.2.2.2.2.2.2.2)))) (Ob (.inr (sa.1,sa.2.2.1,sa.2.2.2.1,sa.2.2.2.2.1,sa.2.2.2.2.2.1,sa.2.2.2.2.2.2.1,sa.2.2.2.2.2.2.2.1,sa.2.2.2.2.2.2.2.2.1,sa.2.2.2.2.2.2.2.2.2.1,sa.2.2.2.2.2.2.2.2.2.2.1,sa.2.2.2.2.2.2.2.2.2.2.2)))) big (Oc,0,0,0,0,0,0,0,0,0,0,0)) λta=>
Ob (((ta.2.1,ta.2.2.1,()),(ta.2.2.2.1,ta.2.2.2.2.1,ta.2.2.2.2.2.1,ta.2.2.2.2.2.2.1,ta.2.2.2.2.2.2.2.1,ta.2.2.2.2.2.2.2.2.1,()),ta.2.2.2.2.2.2.2.2.2.1,ta.2.2.2.2.2.2.2.2.2.2,()),ta.1)
def zc6 (a:List zbh):Option zbh:=
Zb (iter (σ:=(Int×Int×Int×Int×Int×Int×Int)) (τ:=(Int×Int×Int×Int×Int×Int)) (λs9=>
cond (decide (s9.1<zq a)) (Zb (idx a s9.1) λxa=>
Ob (.inl (w64 (s9.1+1),w64 (s9.2.1+xa.1),w64 (s9.2.2.1+xa.2.1),w64 (s9.2.2.2.1+xa.2.2.1),w64 (s9.2.2.2.2.1+xa.2.2.2.1),w64 (s9.2.2.2.2.2.1+xa.2.2.2.2.1),w64 (s9.2.2.2.2.2.2+xa.2.2.2.2.2.1)))) (Ob (.inr (s9.2.1,s9.2.2.1,s9.2.2.2.1,s9.2.2.2.2.1,s9.2.2.2.2.2.1,s9.2.2.2.2.2.2)))) big (0,0,0,0,0,0,0)) λta=>
Ob (ta.1,ta.2.1,ta.2.2.1,ta.2.2.2.1,ta.2.2.2.2.1,ta.2.2.2.2.2,())
def zaL (b:zaF) (c:ze) (a:Int):Option (Leg×ze×Bool):=
Zb (iter (σ:=(Int×Int×Int×Int×Int×Int×Int×Int×Int×Int×Int×Int×Int×Int×Int×Int×Int×Int×Int×Int×Int×Int×Int×Int×Int)) (τ:=(Bool×Int×Int×Int×Int×Int×Int×Int×Int×Int×Int×Int×Int×Int×Int×Int×Int×Int×Int×Int×Int×Int×Int×Int×Int)) (λsa=>
Zb (z5 b.1 (sa.2.2.2.2.2.2.2.2.2.2.2.2.2.2.1,sa.2.2.2.2.2.2.2.2.2.2.2.2.2.2.2.1,())) λye=>
cond (sa.2.2.2.2.2.2.2.2.2.2.2.2.2.2.1==0) (Zb (zW (w64 (a-ye)) 0 1000) λyf=>
cond yf (Ob (.inr (Od,ye,sa.2.2.2.2.2.2.2.2.2.2.2.2.2.2.1,sa.2.2.2.2.2.2.2.2.2.2.2.2.2.2.2.1,sa.2.1,ye,sa.2.2.2.1,sa.2.2.2.2.1,sa.2.2.2.2.2.1,sa.2.2.2.2.2.2.1,sa.2.2.2.2.2.2.2.1,sa.2.2.2.2.2.2.2.2.1,sa.2.2.2.2.2.2.2.2.2.1,sa.2.2.2.2.2.2.2.2.2.2.1,sa.2.1,sa.2.2.2.1,sa.2.2.2.2.1,sa.2.2.2.2.2.1,sa.2.2.2.2.2.2.1,sa.2.2.2.2.2.2.2.1,sa.2.2.2.2.2.2.2.2.1,sa.2.2.2.2.2.2.2.2.2.1,sa.2.2.2.2.2.2.2.2.2.2.1,sa.2.2.2.2.2.2.2.2.2.2.2.2.2.2.1,sa.2.2.2.2.2.2.2.2.2.2.2.2.2.2.2.1))) (cond (sa.1==36000) (Ob (.inr (Oc,sa.2.2.1,sa.2.2.2.2.2.2.2.2.2.2.2.2.2.2.1,sa.2.2.2.2.2.2.2.2.2.2.2.2.2.2.2.1,sa.2.1,sa.2.2.1,sa.2.2.2.1,sa.2.2.2.2.1,sa.2.2.2.2.2.1,sa.2.2.2.2.2.2.1,sa.2.2.2.2.2.2.2.1,sa.2.2.2.2.2.2.2.2.1,sa.2.2.2.2.2.2.2.2.2.1,sa.2.2.2.2.2.2.2.2.2.2.1,sa.2.1,sa.2.2.2.1,sa.2.2.2.2.1,sa.2.2.2.2.2.1,sa.2.2.2.2.2.2.1,sa.2.2.2.2.2.2.2.1,sa.2.2.2.2.2.2.2.2.1,sa.2.2.2.2.2.2.2.2.2.1,sa.2.2.2.2.2.2.2.2.2.2.1,sa.2.2.2.2.2.2.2.2.2.2.2.2.2.2.1,sa.2.2.2.2.2.2.2.2.2.2.2.2.2.2.2.1))) (Zb (zaZ b (sa.2.2.2.2.2.2.2.2.2.2.2.2.2.2.1,sa.2.2.2.2.2.2.2.2.2.2.2.2.2.2.2.1,()) a) λya=>
cond (!ya.2) (Ob (.inr (Oc,sa.2.2.1,sa.2.2.2.2.2.2.2.2.2.2.2.2.2.2.1,sa.2.2.2.2.2.2.2.2.2.2.2.2.2.2.2.1,sa.2.1,sa.2.2.1,sa.2.2.2.1,sa.2.2.2.2.1,sa.2.2.2.2.2.1,sa.2.2.2.2.2.2.1,sa.2.2.2.2.2.2.2.1,sa.2.2.2.2.2.2.2.2.1,sa.2.2.2.2.2.2.2.2.2.1,sa.2.2.2.2.2.2.2.2.2.2.1,sa.2.1,sa.2.2.2.1,sa.2.2.2.2.1,sa.2.2.2.2.2.1,sa.2.2.2.2.2.2.1,sa.2.2.2.2.2.2.2.1,sa.2.2.2.2.2.2.2.2.1,sa.2.2.2.2.2.2.2.2.2.1,sa.2.2.2.2.2.2.2.2.2.2.1,sa.2.2.2.2.2.2.2.2.2.2.2.2.2.2.1,sa.2.2.2.2.2.2.2.2.2.2.2.2.2.2.2.1))) (cond (decide (ya.1.1.2.1>10000000000000000)) (Ob (.inr (Oc,sa.2.2.1,sa.2.2.2.2.2.2.2.2.2.2.2.2.2.2.1,sa.2.2.2.2.2.2.2.2.2.2.2.2.2.2.2.1,sa.2.1,sa.2.2.1,sa.2.2.2.1,sa.2.2.2.2.1,sa.2.2.2.2.2.1,sa.2.2.2.2.2.2.1,sa.2.2.2.2.2.2.2.1,sa.2.2.2.2.2.2.2.2.1,sa.2.2.2.2.2.2.2.2.2.1,sa.2.2.2.2.2.2.2.2.2.2.1,sa.2.1,sa.2.2.2.1,sa.2.2.2.2.1,sa.2.2.2.2.2.1,sa.2.2.2.2.2.2.1,sa.2.2.2.2.2.2.2.1,sa.2.2.2.2.2.2.2.2.1,sa.2.2.2.2.2.2.2.2.2.1,sa.2.2.2.2.2.2.2.2.2.2.1,sa.2.2.2.2.2.2.2.2.2.2.2.2.2.2.1,sa.2.2.2.2.2.2.2.2.2.2.2.2.2.2.2.1))) (Zb (zc6 ([(sa.2.2.2.1,sa.2.2.2.2.1,sa.2.2.2.2.2.1,sa.2.2.2.2.2.2.1,sa.2.2.2.2.2.2.2.1,sa.2.2.2.2.2.2.2.2.1,()),ya.1.2.1])) λyc=>
Ob (.inl (w64 (sa.1+1),w64 (sa.2.1+100),sa.2.2.1,yc.1,yc.2.1,yc.2.2.1,yc.2.2.2.1,yc.2.2.2.2.1,yc.2.2.2.2.2.1,max sa.2.2.2.2.2.2.2.2.2.1 ya.1.2.2.1,max sa.2.2.2.2.2.2.2.2.2.2.1 ya.1.2.2.2.1,sa.2.2.2.2.2.2.2.2.2.2.2.1,sa.2.2.2.2.2.2.2.2.2.2.2.2.1,sa.2.2.2.2.2.2.2.2.2.2.2.2.2.1,ya.1.1.1,ya.1.1.2.1,sa.2.2.2.2.2.2.2.2.2.2.2.2.2.2.2.2.1,sa.2.2.2.2.2.2.2.2.2.2.2.2.2.2.2.2.2.1,sa.2.2.2.2.2.2.2.2.2.2.2.2.2.2.2.2.2.2.1,sa.2.2.2.2.2.2.2.2.2.2.2.2.2.2.2.2.2.2.2.1,sa.2.2.2.2.2.2.2.2.2.2.2.2.2.2.2.2.2.2.2.2.1,sa.2.2.2.2.2.2.2.2.2.2.2.2.2.2.2.2.2.2.2.2.2.1,sa.2.2.2.2.2.2.2.2.2.2.2.2.2.2.2.2.2.2.2.2.2.2.1,sa.2.2.2.2.2.2.2.2.2.2.2.2.2.2.2.2.2.2.2.2.2.2.2.1,sa.2.2.2.2.2.2.2.2.2.2.2.2.2.2.2.2.2.2.2.2.2.2.2.2))))))) (cond (sa.1==36000) (Ob (.inr (Oc,sa.2.2.1,sa.2.2.2.2.2.2.2.2.2.2.2.2.2.2.1,sa.2.2.2.2.2.2.2.2.2.2.2.2.2.2.2.1,sa.2.1,sa.2.2.1,sa.2.2.2.1,sa.2.2.2.2.1,sa.2.2.2.2.2.1,sa.2.2.2.2.2.2.1,sa.2.2.2.2.2.2.2.1,sa.2.2.2.2.2.2.2.2.1,sa.2.2.2.2.2.2.2.2.2.1,sa.2.2.2.2.2.2.2.2.2.2.1,sa.2.1,sa.2.2.2.1,sa.2.2.2.2.1,sa.2.2.2.2.2.1,sa.2.2.2.2.2.2.1,sa.2.2.2.2.2.2.2.1,sa.2.2.2.2.2.2.2.2.1,sa.2.2.2.2.2.2.2.2.2.1,sa.2.2.2.2.2.2.2.2.2.2.1,sa.2.2.2.2.2.2.2.2.2.2.2.2.2.2.1,sa.2.2.2.2.2.2.2.2.2.2.2.2.2.2.2.1))) (Zb (zaZ b (sa.2.2.2.2.2.2.2.2.2.2.2.2.2.2.1,sa.2.2.2.2.2.2.2.2.2.2.2.2.2.2.2.1,()) a) λyb=>
cond (!yb.2) (Ob (.inr (Oc,sa.2.2.1,sa.2.2.2.2.2.2.2.2.2.2.2.2.2.2.1,sa.2.2.2.2.2.2.2.2.2.2.2.2.2.2.2.1,sa.2.1,sa.2.2.1,sa.2.2.2.1,sa.2.2.2.2.1,sa.2.2.2.2.2.1,sa.2.2.2.2.2.2.1,sa.2.2.2.2.2.2.2.1,sa.2.2.2.2.2.2.2.2.1,sa.2.2.2.2.2.2.2.2.2.1,sa.2.2.2.2.2.2.2.2.2.2.1,sa.2.1,sa.2.2.2.1,sa.2.2.2.2.1,sa.2.2.2.2.2.1,sa.2.2.2.2.2.2.1,sa.2.2.2.2.2.2.2.1,sa.2.2.2.2.2.2.2.2.1,sa.2.2.2.2.2.2.2.2.2.1,sa.2.2.2.2.2.2.2.2.2.2.1,sa.2.2.2.2.2.2.2.2.2.2.2.2.2.2.1,sa.2.2.2.2.2.2.2.2.2.2.2.2.2.2.2.1))) (cond (decide (yb.1.1.2.1>10000000000000000)) (Ob (.inr (Oc,sa.2.2.1,sa.2.2.2.2.2.2.2.2.2.2.2.2.2.2.1,sa.2.2.2.2.2.2.2.2.2.2.2.2.2.2.2.1,sa.2.1,sa.2.2.1,sa.2.2.2.1,sa.2.2.2.2.1,sa.2.2.2.2.2.1,sa.2.2.2.2.2.2.1,sa.2.2.2.2.2.2.2.1,sa.2.2.2.2.2.2.2.2.1,sa.2.2.2.2.2.2.2.2.2.1,sa.2.2.2.2.2.2.2.2.2.2.1,sa.2.1,sa.2.2.2.1,sa.2.2.2.2.1,sa.2.2.2.2.2.1,sa.2.2.2.2.2.2.1,sa.2.2.2.2.2.2.2.1,sa.2.2.2.2.2.2.2.2.1,sa.2.2.2.2.2.2.2.2.2.1,sa.2.2.2.2.2.2.2.2.2.2.1,sa.2.2.2.2.2.2.2.2.2.2.2.2.2.2.1,sa.2.2.2.2.2.2.2.2.2.2.2.2.2.2.2.1))) (Zb (zc6 ([(sa.2.2.2.1,sa.2.2.2.2.1,sa.2.2.2.2.2.1,sa.2.2.2.2.2.2.1,sa.2.2.2.2.2.2.2.1,sa.2.2.2.2.2.2.2.2.1,()),yb.1.2.1])) λyd=>
Ob (.inl (w64 (sa.1+1),w64 (sa.2.1+100),sa.2.2.1,yd.1,yd.2.1,yd.2.2.1,yd.2.2.2.1,yd.2.2.2.2.1,yd.2.2.2.2.2.1,max sa.2.2.2.2.2.2.2.2.2.1 yb.1.2.2.1,max sa.2.2.2.2.2.2.2.2.2.2.1 yb.1.2.2.2.1,sa.2.2.2.2.2.2.2.2.2.2.2.1,sa.2.2.2.2.2.2.2.2.2.2.2.2.1,sa.2.2.2.2.2.2.2.2.2.2.2.2.2.1,yb.1.1.1,yb.1.1.2.1,sa.2.2.2.2.2.2.2.2.2.2.2.2.2.2.2.2.1,sa.2.2.2.2.2.2.2.2.2.2.2.2.2.2.2.2.2.1,sa.2.2.2.2.2.2.2.2.2.2.2.2.2.2.2.2.2.2.1,sa.2.2.2.2.2.2.2.2.2.2.2.2.2.2.2.2.2.2.2.1,sa.2.2.2.2.2.2.2.2.2.2.2.2.2.2.2.2.2.2.2.2.1,sa.2.2.2.2.2.2.2.2.2.2.2.2.2.2.2.2.2.2.2.2.2.1,sa.2.2.2.2.2.2.2.2.2.2.2.2.2.2.2.2.2.2.2.2.2.2.1,sa.2.2.2.2.2.2.2.2.2.2.2.2.2.2.2.2.2.2.2.2.2.2.2.1,sa.2.2.2.2.2.2.2.2.2.2.2.2.2.2.2.2.2.2.2.2.2.2.2.2))))))) big (0,0,0,0,0,0,0,0,0,0,0,0,0,0,c.1,c.2.1,0,0,0,0,0,0,0,0,0)) λta=>
Ob ((ta.2.2.2.2.1,ta.2.2.2.2.2.1,(ta.2.2.2.2.2.2.1,ta.2.2.2.2.2.2.2.1,ta.2.2.2.2.2.2.2.2.1,ta.2.2.2.2.2.2.2.2.2.1,ta.2.2.2.2.2.2.2.2.2.2.1,ta.2.2.2.2.2.2.2.2.2.2.2.1,()),ta.2.2.2.2.2.2.2.2.2.2.2.2.1,ta.2.2.2.2.2.2.2.2.2.2.2.2.2.1,()),(ta.2.2.1,ta.2.2.2.1,()),ta.1)
def zb4 (e:Plan) (c:List zad) (d:Train) (b:Int) (a:List Int):Option (List Leg×Int):=
Zb (zdW e c d b a) λy1=>
cond (!y1.2) (Ob ([],2)) (Zb (idx a 0) λx5=>
Zb (slO a 1 (zq a)) λx7=>
Zb (iter (σ:=(List Leg×Int×Int×Int)) (τ:=(List Leg×Int×Int)⊕(List Leg×Int×Int×Int)) (λsa=>
cond (decide (sa.2.1<zq x7)) (Zb (idx x7 sa.2.1) λxa=>
Zb y1.1 λpa=>
Zb (zaL pa (sa.2.2.1,sa.2.2.2,()) xa) λya=>
cond (!ya.2.2) (Ob (.inr (.inr ([],4,sa.2.2.1,sa.2.2.2)))) (cond (decide (sa.2.2.2>10000000000000000)) (Ob (.inr (.inr ([],4,sa.2.2.1,sa.2.2.2)))) (Zb (zcY 80 sa.1 ([ya.1])) λxb=>
Ob (.inl (xb,w64 (sa.2.1+1),ya.2.1.1,ya.2.1.2.1))))) (Ob (.inr (.inl (sa.1,sa.2.2.1,sa.2.2.2))))) big ([],0,0,w64 (w64 (10*d.1)*x5))) λta=>
alt (λbb=>Ob (bb.1,0)) (λba=>Ob (ba.1,ba.2.1)) ta)
def za0 (b:List Leg) (a:(Leg->Option Int)):Option (List Int):=
Zb (iter (σ:=(List Int×Int)) (τ:=List Int) (λs7=>
cond (decide (s7.2<zq b)) (Zb (idx b s7.2) λxa=>
Zb (a xa) λya=>
Zb (zcY 8 s7.1 ([ya])) λxb=>
Ob (.inl (xb,w64 (s7.2+1)))) (Ob (.inr s7.1))) big ([],0)) λta=>
Ob ta
def zeR (a:Leg):Option Int:=
Ob a.1
def zc7 (e:Plan) (c:List zad) (d:Train) (b:Int) (a:List Int):Option (List Int×Int):=
Zb (zb4 e c d b a) λy1=>
cond (y1.2 !=0) (Ob ([],y1.2)) (Zb (za0 y1.1 (λx=>zeR x)) λy4=>
Ob (y4,0))
def zbr (c:Plan) (b:Line) (a:Course):Option (List Int×List Int×Bool):=
Zb (zca c a.1) λy1=>
Zb (cond (y1.2 !=0) (Ob Od) (Zb (zT (zq a.2.1) 2 60) λyb=>
cond (!yb) (Ob Od) (cond ((zq a.2.2.1)!=zq a.2.1) (Ob Od) (Zb (idx a.2.2.1 0) λxd=>
cond (xd !=0) (Ob Od) (Zb (idx a.2.2.1 (w64 (zq a.2.1-1))) λxe=>
Ob (xe !=0)))))) λc9=>
cond c9 (Ob ([],[],Oc)) (Zb (iter (σ:=Int) (τ:=Unit⊕(List Int×List Int×Bool)) (λsb=>
cond (decide (sb<zq a.2.1)) (Zb (idx a.2.1 sb) λxa=>
Zb (zT xa 1 y1.1) λyc=>
cond (!yc) (Ob (.inr (.inr ([],[],Oc)))) (cond (decide (sb>0)) (Zb (idx a.2.1 (w64 (sb-1))) λxf=>
cond (decide (xa<=xf)) (Ob (.inr (.inr ([],[],Oc)))) (Zb (idx a.2.2.1 sb) λxg=>
Zb (zT xg 0 600) λyd=>
cond (!yd) (Ob (.inr (.inr ([],[],Oc)))) (Ob (.inl (w64 (sb+1)))))) (Zb (idx a.2.2.1 sb) λxh=>
Zb (zT xh 0 600) λye=>
cond (!ye) (Ob (.inr (.inr ([],[],Oc)))) (Ob (.inl (w64 (sb+1))))))) (Ob (.inr (.inl ())))) big 0) λtb=>
alt (λbb=>Zb (zc7 c a.1 b.2.2.1 b.2.2.2.1 a.2.1) λya=>
Zb (cond (ya.2 !=0) (Ob Od) (Ob ((zq ya.1)!=w64 (zq a.2.1-1)))) λca=>
cond ca (Ob ([],[],Oc)) (Zb (mkO 8 (zq a.2.1) (0:Int)) λxi=>
Zb (mkO 8 (zq a.2.1) (0:Int)) λxj=>
Zb (iter (σ:=(Int×List Int×List Int)) (τ:=(List Int×List Int)) (λsa=>
cond (decide (sa.1<zq ya.1)) (Zb (idx ya.1 sa.1) λxk=>
Zb (zf6 .i64 (w64 (xk+999)) 1000) λxb=>
Zb (idx sa.2.2 (w64 (sa.1+1))) λxp=>
Zb (idx sa.2.1 sa.1) λxl=>
Zb (idx ((sa.2.2).set (Int.toNat (w64 (sa.1+1))) (max 1 xb)) (w64 (sa.1+1))) λxm=>
Zb (idx a.2.2.1 (w64 (sa.1+1))) λxn=>
Zb (idx sa.2.1 (w64 (sa.1+1))) λxq=>
Ob (.inl (w64 (sa.1+1),(sa.2.1).set (Int.toNat (w64 (sa.1+1))) (w64 (w64 (xl+xm)+xn)),(sa.2.2).set (Int.toNat (w64 (sa.1+1))) (max 1 xb)))) (Ob (.inr (sa.2.1,sa.2.2)))) big (0,xj,xi)) λta=>
Zb (idx ta.1 (w64 (zq a.2.1-1))) λxo=>
Ob (ta.2,ta.1,decide (xo<=50000)))) (λba=>Ob (ba.1,ba.2.1,ba.2.2)) tb)
def zb5 (b:Plan) (a:Line):Option (Option zu×Bool):=
Zb (Zb (zdJ b) λy5=>
cond (y5 !=0) (Ob Od) (Zb (zT a.2.2.2.2.1 0 3600) λy7=>
Ob (!y7))) λc4=>
cond c4 (Ob ((Oe:Option zu),Oc)) (Zb (zb9 a) λyb=>
Zb (iter (σ:=(Int×List Int×List Int×List Int×List Int)) (τ:=(List Int×List Int×List Int×List Int)⊕(Option zu×Bool×List Int×List Int×List Int×List Int)) (λsa=>
cond (decide (sa.1<2)) (Zb (idx yb sa.1) λxa=>
Zb (zbr b a xa) λya=>
Zb (idx [(),()] sa.1) λxb=>
Zb (idx [(),()] sa.1) λxd=>
cond (!ya.2.2) (Ob (.inr (.inr ((Oe:Option zu),Oc,cond (sa.1==0) ya.1 sa.2.1,cond (sa.1==1) ya.1 sa.2.2.1,cond (sa.1==0) ya.2.1 sa.2.2.2.1,cond (sa.1==1) ya.2.1 sa.2.2.2.2)))) (Ob (.inl (w64 (sa.1+1),cond (sa.1==0) ya.1 sa.2.1,cond (sa.1==1) ya.1 sa.2.2.1,cond (sa.1==0) ya.2.1 sa.2.2.2.1,cond (sa.1==1) ya.2.1 sa.2.2.2.2)))) (Ob (.inr (.inl (sa.2.1,sa.2.2.1,sa.2.2.2.1,sa.2.2.2.2))))) big (0,[],[],[],[])) λta=>
alt (λba=>Ob (Ob (((a.1.1,a.1.2.1,a.1.2.2.1,()),(a.2.1.1,a.2.1.2.1,a.2.1.2.2.1,()),(a.2.2.1.1,a.2.2.1.2.1,a.2.2.1.2.2.1,a.2.2.1.2.2.2.1,a.2.2.1.2.2.2.2.1,a.2.2.1.2.2.2.2.2.1,a.2.2.1.2.2.2.2.2.2.1,a.2.2.1.2.2.2.2.2.2.2.1,a.2.2.1.2.2.2.2.2.2.2.2.1,a.2.2.1.2.2.2.2.2.2.2.2.2.1,()),a.2.2.2.1,a.2.2.2.2.1,()),[ba.1,ba.2.1],[ba.2.2.1,ba.2.2.2],()),Od)) (λbb=>Ob (bb.1,bb.2.1)) ta)
def zdx (b:Plan) (a:List Line):Option (List zu×Bool):=
Zb (zT (zq a) 1 20) λy1=>
cond (!y1) (Ob ([],Oc)) (Zb (iter (σ:=(List zu×Int)) (τ:=List zu⊕(List zu×Bool)) (λsa=>
cond (decide (sa.2<zq a)) (Zb (idx a sa.2) λxa=>
Zb (zb5 b xa) λya=>
cond (!ya.2) (Ob (.inr (.inr ([],Oc)))) (Zb ya.1 λpa=>
Zb (zcY 8 sa.1 ([pa])) λxb=>
Ob (.inl (xb,w64 (sa.2+1))))) (Ob (.inr (.inl sa.1)))) big ([],0)) λta=>
alt (λbb=>Ob (bb,Od)) (λba=>Ob (ba.1,ba.2)) ta)
def zcc (b:Plan) (a:Service):Option (List zu×Bool):=
Zb (cond ((zq a.2.1)!=zq a.1) (Ob Od) (Ob ((zq a.2.2.1)!=zq a.1))) λc4=>
cond c4 (Ob ([],Oc)) (Zb (iter (σ:=Int) (τ:=Unit⊕(List zu×Bool)) (λsa=>
cond (decide (sa<zq a.2.1)) (Zb (idx a.2.1 sa) λxa=>
Zb (zT xa 30 7200) λyb=>
cond (!yb) (Ob (.inr (.inr ([],Oc)))) (Zb (idx a.2.2.1 sa) λxb=>
Zb (zT xb 0 (w64 (xa-1))) λyc=>
cond (!yc) (Ob (.inr (.inr ([],Oc)))) (Ob (.inl (w64 (sa+1)))))) (Ob (.inr (.inl ())))) big 0) λta=>
alt (λbb=>Zb (zdx b a.1) λya=>
Ob (ya.1,ya.2)) (λba=>Ob (ba.1,ba.2)) ta)
def zac (a:List Works) (b:(Works->Option Bool)):Option Int:=
Zb (iter (σ:=Int) (τ:=Unit⊕Int) (λs5=>
cond (decide (s5<zq a)) (Zb (idx a s5) λx8=>
Zb (b x8) λy9=>
cond y9 (Ob (.inr (.inr s5))) (Ob (.inl (w64 (s5+1))))) (Ob (.inr (.inl ())))) big 0) λta=>
alt (λbb=>Ob (-1)) (λba=>Ob ba) ta
def zX (b:List Works) (a:(Works->Option Bool)):Option Bool:=
Zb (zac b a) λy1=>
Ob (decide (y1>=0))
def zbI (a:Works) (b:Plan):Option Bool:=
Zb (Zb (zT a.1 0 (w64 (zq b.2.1-1))) λy6=>
cond (!y6) (Ob Od) (Zb (zT a.2.1 0 a.2.2.1) λy8=>
cond (!y8) (Ob Od) (Ob (decide (a.2.2.1>200000))))) λc5=>
Ob c5
def zcV (b:Plan) (a:List Works):Option Bool:=
Zb (cond (decide (zq a<=100)) (Zb (zX a (λx=>zbI x b)) λy6=>
Ob (!y6)) (Ob Oc)) λc4=>
Ob c4
def zx (b:zu) (a:Int):Option Int:=
Zb (idx b.2.2.1 a) λx4=>
Zb (idx b.2.2.1 a) λx5=>
Zb (idx x4 (w64 (zq x5-1))) λx6=>
Ob x6
def zbs (a:zu):Option Int:=
Zb (zx a 0) λy3=>
Zb (zx a 1) λy4=>
Ob (w64 (w64 (y3+y4)+w64 (2*a.1.2.2.2.2.1)))
def zaP (b:zu) (a:Int):Option Int:=
Zb (zbs b) λy1=>
Zb (zf6 .i64 (w64 (w64 (y1+a)-1)) a) λx2=>
Ob x2
def zcl (c:zu) (d:Int) (a:Int) (b:Int):Option Int:=
cond (d==0) (Ob b) (Zb (zx c 0) λy6=>
Zb (zaP c a) λy7=>
Zb (zbs c) λy8=>
Zb (zf6 .i64 (w64 (w64 (y7*a)-y8)) 2) λx9=>
Ob (w64 (w64 (w64 (b+y6)+c.1.2.2.2.2.1)+x9)))
def zbV (b:Int) (a:Int):Option Int:=
Zb (zri b a) λx1=>
Zb (zri (w64 (x1+a)) a) λx2=>
Ob x2
def zH {σ τ:Type} (step:σ->(Int×Int)->Option (σ⊕τ)) (s_:σ) (b:zu) (e:Int) (a:Int) (d:Int) (c:Int):Option (σ⊕τ):=
Zb (zcl b e a d) λy1=>
Zb (zbV (w64 (y1-c)) a) λy3=>
Zb (iter (σ:=(Int×(σ⊕τ))) (τ:=(σ⊕τ)) (λsa=>
Zb (zf6 .i64 (w64 (sa.1-y1)) a) λxa=>
Zb (zaP b a) λyb=>
Zb (zbV xa yb) λyc=>
Zb (goL sa.2) λsb=>
Zb (step sb (sa.1,yc)) λya=>
cond (!(ya).isLeft) (Ob (.inr ya)) (Ob (.inl (w64 (sa.1+a),ya)))) big (w64 (c+y3),(.inl s_))) λta=>
Ob ta
def zat (e:zu) (d:Int) (a:Int) (b:Int) (c:Int):Option (zu×Int×Int×Int×Int):=
Ob (e,d,a,b,c)
def zaD (a:List zad) (b:(zad->Option Bool)):Option Int:=
Zb (iter (σ:=Int) (τ:=Unit⊕Int) (λs5=>
cond (decide (s5<zq a)) (Zb (idx a s5) λx8=>
Zb (b x8) λy9=>
cond y9 (Ob (.inr (.inr s5))) (Ob (.inl (w64 (s5+1))))) (Ob (.inr (.inl ())))) big 0) λta=>
alt (λbb=>Ob (-1)) (λba=>Ob ba) ta
def za1 (b:List zad) (a:(zad->Option Bool)):Option Bool:=
Zb (zaD b a) λy1=>
Ob (decide (y1>=0))
def zbL (a:zad) (b:Works):Option Bool:=
Ob (a.1==b.1)
def za3 (a:Works) (e:List zad) (b:Int) (d:zu) (c:Int):Option Bool:=
Zb (za1 e (λx=>zbL x a)) λy1=>
Zb (cond y1 (cond (decide (b<a.2.2.1)) (Zb (zx d c) λya=>
Ob (decide (a.2.1<w64 (b+ya)))) (Ob Oc)) (Ob Oc)) λc8=>
Ob c8
def zaE (c:zu) (a:Int) (b:Int) (d:List Works):Option Bool:=
Zb (zb9 c.1) λy4=>
Zb (idx y4 a) λx5=>
Zb (zX d (λx=>za3 x x5.1 b c a)) λy7=>
Ob (!y7)
def zay (a:Int):Option (List Trip):=
cond (decide (a<0)) Oe (cond (decide (w64 (a-w64 (0-0))>0)) (Zb (zoW 32 (w64 (a-w64 (0-0))) ((0,Oc,0,0,()):Trip)) λx3=>
Zb (slz x3) λx5=>
Ob ([]:List Trip)) (Ob ([])))
def zaq (a:List (List Trip)):Option (List Trip):=
Zb (iter (σ:=(Int×Int)) (τ:=Int) (λs4=>
cond (decide (s4.2<zq a)) (Zb (idx a s4.2) λx7=>
cond (decide (w64 (s4.1+zq x7)<0)) Oe (Ob (.inl (w64 (s4.1+zq x7),w64 (s4.2+1))))) (Ob (.inr s4.1))) big (0,0)) λt9=>
Zb (zay t9) λya=>
Zb (iter (σ:=(List Trip×Int)) (τ:=List Trip) (λsa=>
cond (decide (sa.2<zq a)) (Zb (idx a sa.2) λxa=>
Zb (zcY 32 sa.1 xa) λxb=>
Ob (.inl (xb,w64 (sa.2+1)))) (Ob (.inr sa.1))) big (ya,0)) λta=>
Ob ta
def zF   (a:List Trip) (c:Int) (d:Int) (b:((Trip×Trip)->Option Int)):Option (List Trip):=
Zb (iter (σ:=(Int×List Trip)) (τ:=List Trip) (λsb=>
cond (decide (sb.1<d)) (Zb (iter (σ:=(Int×List Trip)) (τ:=List Trip) (λsa=>
cond (decide (sa.1>c)) (Zb (idx sa.2 sa.1) λxb=>
Zb (idx sa.2 (w64 (sa.1-1))) λxd=>
Zb (b (xb,xd)) λya=>
cond (decide (ya<0)) (Zb (idx sa.2 (w64 (sa.1-1))) λxa=>
Zb (idx sa.2 sa.1) λxe=>
Zb (idx sa.2 sa.1) λxf=>
Zb (idx ((sa.2).set (Int.toNat sa.1) xa) (w64 (sa.1-1))) λxg=>
Ob (.inl (w64 (sa.1-1),((sa.2).set (Int.toNat sa.1) xa).set (Int.toNat (w64 (sa.1-1))) xe))) (Ob (.inr sa.2))) (Ob (.inr sa.2))) big (sb.1,sb.2)) λta=>
Ob (.inl (w64 (sb.1+1),ta))) (Ob (.inr sb.2))) big (w64 (c+1),a)) λtb=>
Ob tb
def zp   (a:List Trip) (b:Int) (c:Int) (e:Int) (d:((Trip×Trip)->Option Int)):Option (List Trip):=
Zb (iter (σ:=(Int×List Trip)) (τ:=List Trip) (λsa=>
cond (decide (sa.1<e)) (Zb (idx sa.2 (w64 (c+sa.1))) λxa=>
Zb (idx sa.2 (w64 (b+sa.1))) λxb=>
Zb (idx sa.2 (w64 (b+sa.1))) λxd=>
Zb (idx ((sa.2).set (Int.toNat (w64 (b+sa.1))) xa) (w64 (c+sa.1))) λxe=>
Ob (.inl (w64 (sa.1+1),((sa.2).set (Int.toNat (w64 (b+sa.1))) xa).set (Int.toNat (w64 (c+sa.1))) xb))) (Ob (.inr sa.2))) big (0,a)) λta=>
Ob ta
def zZ   (c:List Trip) (e:Int) (a:Int) (d:Int) (b:((Trip×Trip)->Option Int)):Option (List Trip):=
Zb (iter (σ:=(Int×Int×List Trip)) (τ:=(Int×List Trip)) (λsa=>
cond (sa.1 !=sa.2.1) (cond (decide (sa.1>sa.2.1)) (Zb (zp sa.2.2 (w64 (a-sa.1)) a sa.2.1 b) λya=>
Ob (.inl (w64 (sa.1-sa.2.1),sa.2.1,ya))) (Zb (zp sa.2.2 (w64 (a-sa.1)) (w64 (w64 (a+sa.2.1)-sa.1)) sa.1 b) λyb=>
Ob (.inl (sa.1,w64 (sa.2.1-sa.1),yb)))) (Ob (.inr (sa.1,sa.2.2)))) big (w64 (a-e),w64 (d-a),c)) λta=>
Zb (zp ta.2 (w64 (a-ta.1)) a ta.1 b) λyc=>
Ob yc
def zn   (rec:List Trip->Int->Int->Int->((Trip×Trip)->Option Int)->Option (List Trip)) (a:List Trip) (e:Int) (b:Int) (d:Int) (c:((Trip×Trip)->Option Int)):Option (List Trip):=
cond (w64 (b-e)==1) (Zb (iter (σ:=(Int×Int)) (τ:=Int) (λsc=>
cond (decide (sc.1<sc.2)) (Zb (zhT .u64 (IntKind.u64.wrap (w64 (sc.1+sc.2))) 1) λxe=>
Zb (idx a (w64 xe)) λxi=>
Zb (idx a e) λxj=>
Zb (c (xi,xj)) λyg=>
cond (decide (yg<0)) (Ob (.inl (w64 (w64 xe+1),sc.2))) (Ob (.inl (sc.1,w64 xe)))) (Ob (.inr sc.1))) big (b,d)) λtc=>
Zb (iter (σ:=(Int×List Trip)) (τ:=List Trip) (λsa=>
cond (decide (sa.1<w64 (tc-1))) (Zb (idx sa.2 (w64 (sa.1+1))) λxg=>
Zb (idx sa.2 sa.1) λxk=>
Zb (idx sa.2 sa.1) λxt=>
Zb (idx ((sa.2).set (Int.toNat sa.1) xg) (w64 (sa.1+1))) λxu=>
Ob (.inl (w64 (sa.1+1),((sa.2).set (Int.toNat sa.1) xg).set (Int.toNat (w64 (sa.1+1))) xk))) (Ob (.inr sa.2))) big (e,a)) λtd=>
Ob td) (cond (w64 (d-b)==1) (Zb (iter (σ:=(Int×Int)) (τ:=Int) (λsd=>
cond (decide (sd.1<sd.2)) (Zb (zhT .u64 (IntKind.u64.wrap (w64 (sd.1+sd.2))) 1) λxf=>
Zb (idx a b) λxl=>
Zb (idx a (w64 xf)) λxm=>
Zb (c (xl,xm)) λyh=>
cond (!(decide (yh<0))) (Ob (.inl (w64 (w64 xf+1),sd.2))) (Ob (.inl (sd.1,w64 xf)))) (Ob (.inr sd.1))) big (e,b)) λte=>
Zb (iter (σ:=(Int×List Trip)) (τ:=List Trip) (λsb=>
cond (decide (sb.1>te)) (Zb (idx sb.2 (w64 (sb.1-1))) λxh=>
Zb (idx sb.2 sb.1) λxn=>
Zb (idx sb.2 sb.1) λxv=>
Zb (idx ((sb.2).set (Int.toNat sb.1) xh) (w64 (sb.1-1))) λxw=>
Ob (.inl (w64 (sb.1-1),((sb.2).set (Int.toNat sb.1) xh).set (Int.toNat (w64 (sb.1-1))) xn))) (Ob (.inr sb.2))) big (b,a)) λtf=>
Ob tf) (Zb (zhT .u64 (IntKind.u64.wrap (w64 (e+d))) 1) λxa=>
cond (decide (b>w64 xa)) (Zb (iter (σ:=(Int×Int)) (τ:=Int) (λse=>
cond (decide (se.1<se.2)) (Zb (zhT .u64 (IntKind.u64.wrap (w64 (se.1+se.2))) 1) λxb=>
Zb (idx a (w64 (w64 (w64 (w64 xa+b)-1)-w64 xb))) λxo=>
Zb (idx a (w64 xb)) λxp=>
Zb (c (xo,xp)) λyi=>
cond (!(decide (yi<0))) (Ob (.inl (w64 (w64 xb+1),se.2))) (Ob (.inl (se.1,w64 xb)))) (Ob (.inr se.1))) big (w64 (w64 (w64 xa+b)-d),w64 xa)) λta=>
Zb (cond (decide (ta<b)) (Ob (decide (b<w64 (w64 (w64 xa+b)-ta)))) (Ob Oc)) λca=>
cond ca (Zb (zZ a ta b (w64 (w64 (w64 xa+b)-ta)) c) λya=>
Zb (cond (decide (e<ta)) (Ob (decide (ta<w64 xa))) (Ob Oc)) λcc=>
cond cc (Zb (rec ya e ta (w64 xa) c) λyc=>
Zb (cond (decide (w64 xa<w64 (w64 (w64 xa+b)-ta))) (Ob (decide (w64 (w64 (w64 xa+b)-ta)<d))) (Ob Oc)) λcd=>
cond cd (Zb (rec yc (w64 xa) (w64 (w64 (w64 xa+b)-ta)) d c) λyj=>
Ob yj) (Ob yc)) (Zb (cond (decide (w64 xa<w64 (w64 (w64 xa+b)-ta))) (Ob (decide (w64 (w64 (w64 xa+b)-ta)<d))) (Ob Oc)) λce=>
cond ce (Zb (rec ya (w64 xa) (w64 (w64 (w64 xa+b)-ta)) d c) λyk=>
Ob yk) (Ob ya))) (Zb (cond (decide (e<ta)) (Ob (decide (ta<w64 xa))) (Ob Oc)) λcf=>
cond cf (Zb (rec a e ta (w64 xa) c) λyd=>
Zb (cond (decide (w64 xa<w64 (w64 (w64 xa+b)-ta))) (Ob (decide (w64 (w64 (w64 xa+b)-ta)<d))) (Ob Oc)) λcg=>
cond cg (Zb (rec yd (w64 xa) (w64 (w64 (w64 xa+b)-ta)) d c) λyl=>
Ob yl) (Ob yd)) (Zb (cond (decide (w64 xa<w64 (w64 (w64 xa+b)-ta))) (Ob (decide (w64 (w64 (w64 xa+b)-ta)<d))) (Ob Oc)) λch=>
cond ch (Zb (rec a (w64 xa) (w64 (w64 (w64 xa+b)-ta)) d c) λym=>
Ob ym) (Ob a)))) (Zb (iter (σ:=(Int×Int)) (τ:=Int) (λsf=>
cond (decide (sf.1<sf.2)) (Zb (zhT .u64 (IntKind.u64.wrap (w64 (sf.1+sf.2))) 1) λxd=>
Zb (idx a (w64 (w64 (w64 (w64 xa+b)-1)-w64 xd))) λxq=>
Zb (idx a (w64 xd)) λxr=>
Zb (c (xq,xr)) λyn=>
cond (!(decide (yn<0))) (Ob (.inl (w64 (w64 xd+1),sf.2))) (Ob (.inl (sf.1,w64 xd)))) (Ob (.inr sf.1))) big (e,b)) λtb=>
Zb (cond (decide (tb<b)) (Ob (decide (b<w64 (w64 (w64 xa+b)-tb)))) (Ob Oc)) λci=>
cond ci (Zb (zZ a tb b (w64 (w64 (w64 xa+b)-tb)) c) λyb=>
Zb (cond (decide (e<tb)) (Ob (decide (tb<w64 xa))) (Ob Oc)) λcj=>
cond cj (Zb (rec yb e tb (w64 xa) c) λye=>
Zb (cond (decide (w64 xa<w64 (w64 (w64 xa+b)-tb))) (Ob (decide (w64 (w64 (w64 xa+b)-tb)<d))) (Ob Oc)) λck=>
cond ck (Zb (rec ye (w64 xa) (w64 (w64 (w64 xa+b)-tb)) d c) λyo=>
Ob yo) (Ob ye)) (Zb (cond (decide (w64 xa<w64 (w64 (w64 xa+b)-tb))) (Ob (decide (w64 (w64 (w64 xa+b)-tb)<d))) (Ob Oc)) λcl=>
cond cl (Zb (rec yb (w64 xa) (w64 (w64 (w64 xa+b)-tb)) d c) λyp=>
Ob yp) (Ob yb))) (Zb (cond (decide (e<tb)) (Ob (decide (tb<w64 xa))) (Ob Oc)) λcm=>
cond cm (Zb (rec a e tb (w64 xa) c) λyf=>
Zb (cond (decide (w64 xa<w64 (w64 (w64 xa+b)-tb))) (Ob (decide (w64 (w64 (w64 xa+b)-tb)<d))) (Ob Oc)) λcn=>
cond cn (Zb (rec yf (w64 xa) (w64 (w64 (w64 xa+b)-tb)) d c) λyq=>
Ob yq) (Ob yf)) (Zb (cond (decide (w64 xa<w64 (w64 (w64 xa+b)-tb))) (Ob (decide (w64 (w64 (w64 xa+b)-tb)<d))) (Ob Oc)) λco=>
cond co (Zb (rec a (w64 xa) (w64 (w64 (w64 xa+b)-tb)) d c) λyr=>
Ob yr) (Ob a))))))
def zr  :Nat->List Trip->Int->Int->Int->((Trip×Trip)->Option Int)->Option (List Trip)
 | 0=>λ_ _ _ _ _=>Oe
 | k+1=>zn (zr k)
def za4   (c:List Trip) (b:Int) (a:((Trip×Trip)->Option Int)):Option (List Trip):=
Zb (iter (σ:=(Int×Int×List Trip)) (τ:=(Int×List Trip)) (λs7=>
cond (decide (s7.2.1<=b)) (Zb (zF s7.2.2 s7.1 s7.2.1 a) λya=>
Ob (.inl (s7.2.1,w64 (s7.2.1+20),ya))) (Ob (.inr (s7.1,s7.2.2)))) big (0,20,c)) λtb=>
Zb (zF tb.2 tb.1 b a) λyb=>
Zb (iter (σ:=(Int×List Trip)) (τ:=List Trip) (λsa=>
cond (decide (sa.1<b)) (Zb (iter (σ:=(Int×Int×List Trip)) (τ:=(Int×List Trip)) (λsb=>
cond (decide (sb.2.1<=b)) (Zb (zr big sb.2.2 sb.1 (w64 (sb.1+sa.1)) sb.2.1 a) λyc=>
Ob (.inl (sb.2.1,w64 (sb.2.1+w64 (2*sa.1)),yc))) (Ob (.inr (sb.1,sb.2.2)))) big (0,w64 (2*sa.1),sa.2)) λta=>
cond (decide (w64 (ta.1+sa.1)<b)) (Zb (zr big ta.2 ta.1 (w64 (ta.1+sa.1)) b a) λyd=>
Ob (.inl (w64 (sa.1*2),yd))) (Ob (.inl (w64 (sa.1*2),ta.2)))) (Ob (.inr sa.2))) big (20,yb)) λtc=>
Ob tc
def zY   (b:List Trip) (a:((Trip×Trip)->Option Int)):Option (List Trip):=
Zb (za4 b (zq b) a) λy1=>
Ob y1
def zbM (a:((Trip×Trip)->Option Int)) (b:List (List Trip)):Option (List Trip):=
Zb (zaq b) λy1=>
Zb (zY y1 a) λy3=>
Ob y3
def zcW (a:Trip) (b:Trip):Option Int:=
Zb (zbD a.2.2.2.1 b.2.2.2.1) λy1=>
Ob y1
def zci (e:Plan) (c:Service) (d:List Works) (b:Int) (a:Int):Option (List Trip×Int):=
Zb (zcc e c) λy1=>
Zb (cond (!y1.2) (Ob Od) (Zb (zcV e d) λy9=>
cond (!y9) (Ob Od) (Zb (zT b 0 a) λyc=>
cond (!yc) (Ob Od) (Ob (decide (a>200000)))))) λc7=>
cond c7 (Ob ([],2)) (Zb (iter (σ:=(List (List Trip)×Int)) (τ:=List (List Trip)) (λsb=>
cond (decide (sb.2<zq y1.1)) (Zb (idx y1.1 sb.2) λxb=>
Zb (iter (σ:=(List (List Trip)×Int)) (τ:=List (List Trip)) (λsa=>
cond (decide (sa.2<2)) (Zb (idx c.2.1 sb.2) λxd=>
Zb (idx c.2.2.1 sb.2) λxe=>
Zb (zat xb sa.2 xd xe b) λya=>
Zb (zH (σ:=List Trip) (τ:=List Trip) (λsc xa=>
Zb (zx xb sa.2) λyd=>
cond (decide (w64 (xa.1+yd)>a)) (Ob (.inr sc)) (Zb (zaE xb sa.2 xa.1 d) λye=>
cond ye (Zb (zcY 32 sc ([((sb.2,(sa.2==1),xa.2,xa.1,()):Trip)])) λxf=>
Ob (.inl xf)) (Ob (.inl sc)))) ([]) ya.1 ya.2.1 ya.2.2.1 ya.2.2.2.1 ya.2.2.2.2) λta=>
alt (λba=>Zb (zcY 24 sa.1 ([ba])) λxg=>
Ob (.inl (xg,w64 (sa.2+1)))) (λbb=>Zb (zcY 24 sa.1 ([bb])) λxh=>
Ob (.inl (xh,w64 (sa.2+1)))) ta) (Ob (.inr sa.1))) big (sb.1,0)) λtb=>
Ob (.inl (tb,w64 (sb.2+1)))) (Ob (.inr sb.1))) big ([],0)) λtc=>
Zb (zbM (λx=>zcW x.1 x.2) tc) λyb=>
cond (decide (zq yb>5000)) (Ob ([],3)) (Ob (yb,0)))
def zdg (c:Plan) (b:Line) (a:Int):Option (Int×Int):=
Zb (zb5 c b) λy1=>
Zb (cond (!y1.2) (Ob Od) (Zb (zT a 30 7200) λy6=>
Ob (!y6))) λc4=>
cond c4 (Ob (0,2)) (Zb y1.1 λp8=>
Zb (zaP p8 a) λy9=>
Ob (y9,0))
def zey (b:Plan) (a:Service):Option Int:=
Zb (zcc b a) λy1=>
cond (!y1.2) (Ob 2) (Ob 0)
def zf4 (a:Bool):Option Int:=
cond a (Ob 1) (Ob 0)
def zcd (c:Plan) (b:Line) (a:Bool):Option (List Int×Int):=
Zb (zb5 c b) λy1=>
cond (!y1.2) (Ob ([],2)) (Zb (zf4 a) λy6=>
Zb y1.1 λp7=>
Zb (idx p7.2.2.1 y6) λx8=>
Ob (x8,0))
def ze4 (c:Plan) (b:Service) (a:List Trip):Option (List Task×Int):=
Zb (zey c b) λy1=>
cond (y1 !=0) (Ob ([],2)) (Zb (iter (σ:=Int) (τ:=Unit⊕(List Task×Int)) (λsb=>
cond (decide (sb<zq a)) (Zb (idx a sb) λxd=>
Zb (zaa xd.1 0 (w64 (zq b.1-1))) λyb=>
cond (!yb) (Ob (.inr (.inr ([],2)))) (Zb (zaa xd.2.2.2.1 0 200000) λyc=>
cond (!yc) (Ob (.inr (.inr ([],2)))) (cond (decide (sb>0)) (Zb (idx a (w64 (sb-1))) λxe=>
cond (decide (xd.2.2.2.1<xe.2.2.2.1)) (Ob (.inr (.inr ([],2)))) (Ob (.inl (w64 (sb+1))))) (Ob (.inl (w64 (sb+1))))))) (Ob (.inr (.inl ())))) big 0) λta=>
alt (λbd=>cond (decide (zq a>60)) (Ob ([],3)) (Zb (iter (σ:=(List Task×Int)) (τ:=List Task⊕(List Task×Int)) (λsa=>
cond (decide (sa.2<zq a)) (Zb (idx a sa.2) λxa=>
Zb (idx b.1 xa.1) λxf=>
Zb (zcd c xf xa.2.1) λya=>
cond (ya.2 !=0) (Ob (.inr (.inr ([],2)))) (Zb (idx ya.1 (w64 (zq ya.1-1))) λxb=>
cond xa.2.1 (cond (decide (w64 (xa.2.2.2.1+xb)>200000)) (Ob (.inr (.inr ([],3)))) (Zb (zcY 32 sa.1 ([(w64 (w64 (2*xa.1)+1),w64 (2*xa.1),xa.2.2.2.1,w64 (xa.2.2.2.1+xb),())])) λxg=>
Ob (.inl (xg,w64 (sa.2+1))))) (cond (decide (w64 (xa.2.2.2.1+xb)>200000)) (Ob (.inr (.inr ([],3)))) (Zb (zcY 32 sa.1 ([((w64 (2*xa.1),w64 (w64 (2*xa.1)+1),xa.2.2.2.1,w64 (xa.2.2.2.1+xb),()):Task)])) λxh=>
Ob (.inl (xh,w64 (sa.2+1))))))) (Ob (.inr (.inl sa.1)))) big ([],0)) λtb=>
alt (λbc=>Ob (bc,0)) (λba=>Ob (ba.1,ba.2)) tb)) (λbb=>Ob (bb.1,bb.2)) ta)
def zdX (a:List Task) (d:Yard) (c:Int) (b:Int):Option (Bool×Int):=
Zb (Zb (zc3 a d) λy7=>
cond (y7 !=0) (Ob Od) (Zb (zaa c 0 (w64 (zq a-1))) λy9=>
cond (!y9) (Ob Od) (Zb (zaa b 0 (w64 (zq a-1))) λya=>
Ob (!ya)))) λc6=>
cond c6 (Ob (Oc,2)) (Zb (zG ((a,d,()):zae) c b) λyb=>
Ob (yb,0))
def zcB (d:Plan) (a:Service) (e:Int) (c:Int) (b:Int):Option Bool:=
Zb (Zb (zeu d a) λy5=>
cond (!y5) (Ob Od) (cond (decide (b<0)) (Ob Od) (Ob ((zq a.2.1)!=zq a.1)))) λc4=>
cond c4 (Zb zcy λy9=>
Ob y9) (Zb (zci d a ([]) e c) λya=>
Zb (cond (ya.2 !=0) (Ob Od) (Ob (decide (zq ya.1>60)))) λca=>
cond ca (Zb zcy λyf=>
Ob yf) (Zb (iter (σ:=(Int×Int×Int)) (τ:=(Int×Int)⊕Bool) (λsc=>
cond (decide (sc.2.2<zq a.1)) (Zb (idx a.1 sc.2.2) λxd=>
Zb (idx a.2.1 sc.2.2) λxe=>
Zb (zdg d xd xe) λyc=>
cond (yc.2 !=0) (Ob (.inr (.inr Oc))) (Zb (idx a.1 sc.2.2) λxf=>
Ob (.inl (w64 (sc.1+yc.1),min sc.2.1 xf.2.2.2.2.1,w64 (sc.2.2+1))))) (Ob (.inr (.inl (sc.1,sc.2.1))))) big (0,b,0)) λtb=>
alt (λba=>Zb (ze4 d a ya.1) λyb=>
cond (yb.2 !=0) (Zb (cond (yb.2==3) (Zb zcy λyg=>
Ob yg) (Ob Oc)) λcc=>
Ob cc) (Zb (mkO 24 (w64 (2*zq a.1)) ([]:List Int)) λxg=>
Zb (mkO 1 (w64 (2*zq a.1)) (Oc:Bool)) λxa=>
Zb (iter (σ:=(Int×List (List Int))) (τ:=List (List Int)) (λsa=>
cond (decide (sa.1<w64 (2*zq a.1))) (Zb (mkO 8 (w64 (2*zq a.1)) (0:Int)) λxh=>
Zb (idx sa.2 sa.1) λxm=>
Zb (iter (σ:=(Int×List (List Int))) (τ:=List (List Int)) (λsb=>
cond (decide (sb.1<w64 (2*zq a.1))) (cond (sa.1 !=sb.1) (Zb (idx sb.2 sa.1) λxb=>
Zb (idx xb sb.1) λxn=>
Ob (.inl (w64 (sb.1+1),(sb.2).set (Int.toNat sa.1) ((xb).set (Int.toNat sb.1) (-1))))) (Ob (.inl (w64 (sb.1+1),sb.2)))) (Ob (.inr sb.2))) big (0,(sa.2).set (Int.toNat sa.1) xh)) λtc=>
Ob (.inl (w64 (sa.1+1),tc))) (Ob (.inr sa.2))) big (0,xg)) λta=>
Zb (iter (σ:=Int) (τ:=Unit⊕Bool) (λsd=>
cond (decide (sd<zq ya.1)) (Zb (iter (σ:=Int) (τ:=Unit⊕Bool) (λse=>
cond (decide (se>=0)) (Zb (idx ya.1 se) λxi=>
Zb (idx ya.1 sd) λxj=>
cond (xi.1==xj.1) (Zb (idx ya.1 se) λxk=>
Zb (idx ya.1 sd) λxl=>
cond (xk.2.2.1==xl.2.2.1) (Zb (zdX yb.1 (ta,ba.2,xa,()) se sd) λyd=>
cond (yd.2 !=0) (Ob (.inr (.inr Oc))) (cond (!yd.1) (Ob (.inr (.inr Oc))) (Ob (.inr (.inl ()))))) (Ob (.inl (w64 (se-1))))) (Ob (.inl (w64 (se-1))))) (Ob (.inr (.inl ())))) big (w64 (sd-1))) λtd=>
alt (λbe=>Ob (.inl (w64 (sd+1)))) (λbb=>Ob (.inr (.inr bb))) td) (Ob (.inr (.inl ())))) big 0) λte=>
alt (λbf=>Zb (zdu yb.1 (ta,ba.2,xa,())) λye=>
Zb (cond (ye.2.2==0) (cond (decide (zq ye.1<=ba.1)) (Zb zcy λyh=>
Ob yh) (Ob Oc)) (Ob Oc)) λcd=>
Ob cd) (λbc=>Ob bc) te)) (λbd=>Ob bd) tb))
end Go.Ai.Sx