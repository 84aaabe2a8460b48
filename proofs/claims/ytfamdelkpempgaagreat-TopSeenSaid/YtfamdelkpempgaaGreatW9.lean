/- Written by program: the data of the functions,and the functions as plain Lean. -/
import Derived.Test.YtfamdelkpempgaaGreatW7
set_option linter.unusedSimpArgs false
set_option linter.unusedVariables false
set_option linter.unusedSectionVars false
open Option renaming some→Ob,none→Oe
open Bool renaming false→Oc,true→Od
open Option renaming bind->Zb,bind_some->Zs
namespace Go.Ai.Sx
abbrev Spot:Type:=Int×Int×Unit
abbrev zl:Type:=Int×Bool×Unit
abbrev zcw:Type:=Spot×Int×List zl×Int×Unit
abbrev Rail:Type:=Int×Int×List Spot×Int×Int×Unit
abbrev Plan:Type:=List zcw×List Rail×Unit
abbrev zL:Type:=Int×Bool×Unit
abbrev Course:Type:=List zL×List Int×List Int×Unit
abbrev Train:Type:=Int×Int×Int×Int×Int×Int×Int×Int×Int×List Int×Unit
abbrev Line:Type:=Course×Course×Train×Int×Int×Unit
abbrev zd:Type:=Int×Int×Unit
abbrev zaf:Type:=Plan×List zL×Train×Int×Int×Unit
abbrev zac:Type:=Int×Int×Int×Int×Int×Int×Unit
abbrev Cover:Type:=Int×Int×Int×Unit
abbrev Leg:Type:=Int×Int×zac×Int×Int×Unit
abbrev Service:Type:=List Line×List Int×List Int×Unit
abbrev Works:Type:=Int×Int×Int×Unit
abbrev Turnback:Type:=Int×Bool×Int×Int×Int×Unit
abbrev Day:Type:=Plan×Service×List Works×Int×Int×List Turnback×Unit
abbrev zbp:Type:=Plan×List Int×List (zl×Int)×Unit
abbrev zjI:Type:=Plan×Unit×zb×Unit
abbrev zaG:Type:=zcw×Unit
abbrev zau:Type:=Train×Int×Unit
abbrev zaF:Type:=zau×List zL×List Int×List Int×List Int×List Int×Unit
abbrev zlc:Type:=zau×List zL×Unit×Unit×Unit×List Int×Unit
abbrev zbm:Type:=zd×zac×Int×Int×Unit
abbrev zz:Type:=Line×List (List Int)×List (List Int)×Unit
abbrev Trip:Type:=Int×Bool×Int×Int×Unit
abbrev zM:Type:=Course×List Int×Unit
abbrev zw:Type:=Int×Int×Unit
abbrev zaR:Type:=Day×List (List zM)×List Trip×List (zw×List Int)×Unit
abbrev zld:Type:=Day×Unit×List Trip×zb×Unit
abbrev Use:Type:=Int×Int×Int×Unit
abbrev zcP:Rep Spot:=(zI (zi .i64) (zI (zi .i64) zcS))
abbrev zZ:Rep zl:=(zI (zi .i64) (zI zaS zcS))
abbrev zbZ:Rep zcw:=(zI zcP (zI (zi .i64) (zI (ze zZ) (zI (zi .i64) zcS))))
abbrev zdO:Rep Rail:=(zI (zi .i64) (zI (zi .i64) (zI (ze zcP) (zI (zi .i64) (zI (zi .i64) zcS)))))
abbrev zbI:Rep Plan:=(zI (ze zbZ) (zI (ze zdO) zcS))
abbrev zT:Rep zL:=(zI (zi .i64) (zI zaS zcS))
abbrev zb0:Rep Course:=(zI (ze zT) (zI (ze (zi .i64)) (zI (ze (zi .i64)) zcS)))
abbrev zb1:Rep Train:=(zI (zi .i64) (zI (zi .i64) (zI (zi .i64) (zI (zi .i64) (zI (zi .i64) (zI (zi .i64) (zI (zi .i64) (zI (zi .i64) (zI (zi .i64) (zI (ze (zi .i64)) zcS))))))))))
abbrev zdP:Rep Line:=(zI zb0 (zI zb0 (zI zb1 (zI (zi .i64) (zI (zi .i64) zcS)))))
abbrev zx:Rep zd:=(zI (zi .i64) (zI (zi .i64) zcS))
abbrev zam:Rep zaf:=(zI zbI (zI (ze zT) (zI zb1 (zI (zi .i64) (zI (zi .i64) zcS)))))
abbrev zC:Rep zac:=(zI (zi .i64) (zI (zi .i64) (zI (zi .i64) (zI (zi .i64) (zI (zi .i64) (zI (zi .i64) zcS))))))
abbrev ze7:Rep Cover:=(zI (zi .i64) (zI (zi .i64) (zI (zi .i64) zcS)))
theorem zlQ:FOk ze7 0 (zi .i64) (λx=>x.1) (λx y=>(y,x.2.1,x.2.2.1,())):=FOk.off FOk.here rfl
abbrev zgE:Rep Leg:=(zI (zi .i64) (zI (zi .i64) (zI zC (zI (zi .i64) (zI (zi .i64) zcS)))))
theorem zu8:FOk zgE 0 (zi .i64) (λx=>x.1) (λx y=>(y,x.2.1,x.2.2.1,x.2.2.2.1,x.2.2.2.2.1,())):=FOk.off FOk.here rfl
abbrev zd6:Rep Service:=(zI (ze zdP) (zI (ze (zi .i64)) (zI (ze (zi .i64)) zcS)))
abbrev zc6:Rep Works:=(zI (zi .i64) (zI (zi .i64) (zI (zi .i64) zcS)))
abbrev za5:Rep Turnback:=(zI (zi .i64) (zI zaS (zI (zi .i64) (zI (zi .i64) (zI (zi .i64) zcS)))))
abbrev zlR:Rep Day:=(zI zbI (zI zd6 (zI (ze zc6) (zI (zi .i64) (zI (zi .i64) (zI (ze za5) zcS))))))
abbrev zai:Rep zbp:=(zI zbI (zI (ze (zi .i64)) (zI (zoC zZ (zi .i64)) zcS)))
abbrev zjb:Rep zjI:=(zI zbI (zI zsB (zI zjD zcS)))
abbrev zay:Rep zaG:=(zI zbZ zcS)
abbrev zR:Rep zau:=(zI zb1 (zI (zi .i64) zcS))
abbrev zaH:Rep zaF:=(zI (zaO zR) (zI (ze zT) (zI (ze (zi .i64)) (zI (ze (zi .i64)) (zI (ze (zi .i64)) (zI (ze (zi .i64)) zcS))))))
abbrev zkG:Rep zlc:=(zI (zaO zR) (zI (ze zT) (zI zsB (zI zsB (zI zsB (zI (ze (zi .i64)) zcS))))))
abbrev zaX:Rep zbm:=(zI zx (zI zC (zI (zi .i64) (zI (zi .i64) zcS))))
abbrev zk:Rep zz:=(zI zdP (zI (zhG 2 (ze (zi .i64))) (zI (zhG 2 (ze (zi .i64))) zcS)))
abbrev z8:Rep Trip:=(zI (zi .i64) (zI zaS (zI (zi .i64) (zI (zi .i64) zcS))))
abbrev zE:Rep zM:=(zI zb0 (zI (ze (zi .i64)) zcS))
abbrev zbi:Rep zw:=(zI (zi .i64) (zI (zi .i64) zcS))
abbrev z7:Rep zaR:=(zI zlR (zI (ze (zhG 2 zE)) (zI (ze z8) (zI (zoC zbi (ze (zi .i64))) zcS))))
abbrev zkH:Rep zld:=(zI zlR (zI zsB (zI (ze z8) (zI zjD zcS))))
abbrev zjJ:Rep Use:=(zI (zi .i64) (zI (zi .i64) (zI (zi .i64) zcS)))
theorem zzX {x:Day}:Cells zlR x [.val (ze zbZ) x.1.1,.val (ze zdO) x.1.2.1,.val (ze zdP) x.2.1.1,.val (ze (zi .i64)) x.2.1.2.1,.val (ze (zi .i64)) x.2.1.2.2.1,.val (ze zc6) x.2.2.1,.val (zi .i64) x.2.2.2.1,.val (zi .i64) x.2.2.2.2.1,.val (ze za5) x.2.2.2.2.2.1]:=(zj (zj (zm rfl) (zj (zm rfl) za1 rfl) rfl) (zj (zj (zm rfl) (zj (zm rfl) (zj (zm rfl) za1 rfl) rfl) rfl) (zj (zm rfl) (zj (zm rfl) (zj (zm rfl) (zj (zm rfl) za1 rfl) rfl) rfl) rfl) rfl) rfl)
theorem zb2 {x:zac}:Cells zC x [.val (zi .i64) x.1,.val (zi .i64) x.2.1,.val (zi .i64) x.2.2.1,.val (zi .i64) x.2.2.2.1,.val (zi .i64) x.2.2.2.2.1,.val (zi .i64) x.2.2.2.2.2.1]:=(zj (zm rfl) (zj (zm rfl) (zj (zm rfl) (zj (zm rfl) (zj (zm rfl) (zj (zm rfl) za1 rfl) rfl) rfl) rfl) rfl) rfl)
theorem zhO {x:zd}:Cells zx x [.val (zi .i64) x.1,.val (zi .i64) x.2.1]:=(zj (zm rfl) (zj (zm rfl) za1 rfl) rfl)
def zdQ:List Int:=[0,1,2,2,3,3,3,3,4,4,4,4,4,4,4,4,5,5,5,5,5,5,5,5,5,5,5,5,5,5,5,5,6,6,6,6,6,6,6,6,6,6,6,6,6,6,6,6,6,6,6,6,6,6,6,6,6,6,6,6,6,6,6,6,7,7,7,7,7,7,7,7,7,7,7,7,7,7,7,7,7,7,7,7,7,7,7,7,7,7,7,7,7,7,7,7,7,7,7,7,7,7,7,7,7,7,7,7,7,7,7,7,7,7,7,7,7,7,7,7,7,7,7,7,7,7,7,7,8,8,8,8,8,8,8,8,8,8,8,8,8,8,8,8,8,8,8,8,8,8,8,8,8,8,8,8,8,8,8,8,8,8,8,8,8,8,8,8,8,8,8,8,8,8,8,8,8,8,8,8,8,8,8,8,8,8,8,8,8,8,8,8,8,8,8,8,8,8,8,8,8,8,8,8,8,8,8,8,8,8,8,8,8,8,8,8,8,8,8,8,8,8,8,8,8,8,8,8,8,8,8,8,8,8,8,8,8,8,8,8,8,8,8,8,8,8,8,8,8,8,8,8,8,8,8,8]
def zah (c:Int) (b:Int) (a:Int):Option Bool:=
Zb (cond (decide (c>=b)) (Ob (decide (c<=a))) (Ob Oc)) λc4=>
Ob c4
def zbC (a:Spot):Option Bool:=
Zb (Zb (zah a.1 (-10000000) 10000000) λy5=>
cond y5 (Zb (zah a.2.1 (-10000000) 10000000) λy7=>
Ob y7) (Ob Oc)) λc4=>
Ob c4
def zaP (a:Int):Option Int:=
cond (a==1) (Ob 1) (cond (a==2) (Ob 2) (cond (a==3) (Ob 4) (cond (a==4) (cond (a==4) (Ob 3) (Ob 0)) (cond (a==5) (cond (a==5) (Ob 3) (Ob 0)) (cond (a==6) (Ob 3) (Ob 0))))))
def zdt (b:Plan) (a:Int):Option (List Spot):=
Zb (idx b.2.1 a) λx1=>
Zb (idx b.1 x1.1) λx3=>
Zb (zde 16 ([x3.1]) x1.2.2.1) λx5=>
Zb (idx b.1 x1.2.1) λx7=>
Zb (zde 16 x5 ([x7.1])) λx8=>
Ob x8
def ze8 (a:Int):Option Int:=
Zb (iter (σ:=(Int×Int)) (τ:=Int) (λs4=>
cond (decide (w64 (s4.2-s4.1)>1)) (Zb (zdi .i64 (w64 (s4.1+s4.2)) 2) λx7=>
cond (decide (w64 (x7*x7)<=a)) (Ob (.inl (x7,s4.2))) (Ob (.inl (s4.1,x7)))) (Ob (.inr s4.1))) big (0,30000000)) λt9=>
Ob t9
def zdu (b:Spot) (a:Spot):Option Int:=
Zb (ze8 (w64 (w64 (w64 (b.1-a.1)*w64 (b.1-a.1))+w64 (w64 (b.2.1-a.2.1)*w64 (b.2.1-a.2.1))))) λy1=>
Ob y1
def zfK (b:Plan) (a:zl):Option Int:=
cond a.2.1 (Zb (idx b.2.1 a.1) λx2=>
Ob x2.2.1) (Zb (idx b.2.1 a.1) λx3=>
Ob x3.1)
def zcE (a:Plan):Option Bool:=
Zb (Zb (zah (zp a.1) 1 300) λy5=>
cond (!y5) (Ob Od) (Zb (zah (zp a.2.1) 1 400) λy7=>
Ob (!y7))) λc4=>
cond c4 (Ob Oc) (Zb (iter (σ:=Int) (τ:=Unit⊕Bool) (λsc=>
cond (decide (sc<zp a.1)) (Zb (idx a.1 sc) λxa=>
cond (xa.2.1==5) (Zb (zah xa.2.2.2.1 1 2) λyb=>
Zb (zbC xa.1) λyc=>
cond (!yc) (Ob (.inr (.inr Oc))) (Zb (zaP xa.2.1) λyd=>
cond (yd==0) (Ob (.inr (.inr Oc))) (Zb (zaP xa.2.1) λye=>
cond ((zp xa.2.2.1)!=ye) (Ob (.inr (.inr Oc))) (cond (!yb) (Ob (.inr (.inr Oc))) (Ob (.inl (w64 (sc+1)))))))) (cond (xa.2.1==6) (Zb (zah xa.2.2.2.1 1 2) λyf=>
Zb (zbC xa.1) λyg=>
cond (!yg) (Ob (.inr (.inr Oc))) (Zb (zaP xa.2.1) λyh=>
cond (yh==0) (Ob (.inr (.inr Oc))) (Zb (zaP xa.2.1) λyi=>
cond ((zp xa.2.2.1)!=yi) (Ob (.inr (.inr Oc))) (cond (!yf) (Ob (.inr (.inr Oc))) (Ob (.inl (w64 (sc+1)))))))) (Zb (zbC xa.1) λyj=>
cond (!yj) (Ob (.inr (.inr Oc))) (Zb (zaP xa.2.1) λyk=>
cond (yk==0) (Ob (.inr (.inr Oc))) (Zb (zaP xa.2.1) λyl=>
cond ((zp xa.2.2.1)!=yl) (Ob (.inr (.inr Oc))) (cond (!(xa.2.2.2.1==0)) (Ob (.inr (.inr Oc))) (Ob (.inl (w64 (sc+1)))))))))) (Ob (.inr (.inl ())))) big 0) λta=>
alt (λbj=>Zb (iter (σ:=Int) (τ:=Unit⊕Bool) (λsd=>
cond (decide (sd<zp a.2.1)) (Zb (idx a.2.1 sd) λxb=>
Zb (zah xb.1 0 (w64 (zp a.1-1))) λym=>
cond (!ym) (Ob (.inr (.inr Oc))) (Zb (zah xb.2.1 0 (w64 (zp a.1-1))) λyn=>
cond (!yn) (Ob (.inr (.inr Oc))) (cond (decide (zp xb.2.2.1>30)) (Ob (.inr (.inr Oc))) (Zb (zah xb.2.2.2.1 1 50000) λyo=>
cond (!yo) (Ob (.inr (.inr Oc))) (Zb (zah xb.2.2.2.2.1 (-120) 120) λyp=>
cond (!yp) (Ob (.inr (.inr Oc))) (Zb (iter (σ:=Int) (τ:=Unit⊕Bool) (λsf=>
cond (decide (sf<zp xb.2.2.1)) (Zb (idx xb.2.2.1 sf) λxe=>
Zb (zbC xe) λyq=>
cond (!yq) (Ob (.inr (.inr Oc))) (Ob (.inl (w64 (sf+1))))) (Ob (.inr (.inl ())))) big 0) λtb=>
alt (λbk=>Zb (zdt a sd) λya=>
Zb (iter (σ:=Int) (τ:=Unit⊕Bool) (λse=>
cond (decide (se<zp ya)) (Zb (idx ya (w64 (se-1))) λxf=>
Zb (idx ya se) λxg=>
Zb (zdu xf xg) λyr=>
Zb (zah yr 1 1000000) λys=>
cond (!ys) (Ob (.inr (.inr Oc))) (Ob (.inl (w64 (se+1))))) (Ob (.inr (.inl ())))) big 1) λtc=>
alt (λbl=>Ob (.inl (w64 (sd+1)))) (λba=>Ob (.inr (.inr ba))) tc) (λbb=>Ob (.inr (.inr bb))) tb)))))) (Ob (.inr (.inl ())))) big 0) λtd=>
alt (λbm=>Zb (iter (σ:=(List zl×Int)) (τ:=List zl⊕Bool) (λsa=>
cond (decide (sa.2<zp a.1)) (Zb (iter (σ:=(List zl×Int)) (τ:=List zl⊕Bool) (λsb=>
Zb (idx a.1 sa.2) λxh=>
cond (decide (sb.2<zp xh.2.2.1)) (Zb (idx a.1 sa.2) λxi=>
Zb (idx xi.2.2.1 sb.2) λxd=>
Zb (zah xd.1 0 (w64 (zp a.2.1-1))) λyt=>
cond (!yt) (Ob (.inr (.inr Oc))) (Zb (zfK a xd) λyu=>
cond (yu !=sa.2) (Ob (.inr (.inr Oc))) (Zb (iter (σ:=Int) (τ:=Unit⊕Bool) (λsg=>
cond (decide (sg<zp sb.1)) (Zb (idx sb.1 sg) λxj=>
cond (xj==xd) (Ob (.inr (.inr Oc))) (Ob (.inl (w64 (sg+1))))) (Ob (.inr (.inl ())))) big 0) λte=>
alt (λbn=>Zb (zde 16 sb.1 ([xd])) λxk=>
Ob (.inl (xk,w64 (sb.2+1)))) (λbc=>Ob (.inr (.inr bc))) te))) (Ob (.inr (.inl sb.1)))) big (sa.1,0)) λtf=>
alt (λbd=>Ob (.inl (bd,w64 (sa.2+1)))) (λbe=>Ob (.inr (.inr be))) tf) (Ob (.inr (.inl sa.1)))) big ([],0)) λtg=>
alt (λbf=>Ob (zp bf==w64 (2*zp a.2.1))) (λbg=>Ob bg) tg) (λbh=>Ob bh) td) (λbi=>Ob bi) ta)
def zaM (b:Plan) (a:Int):Option Int:=
Zb (zdt b a) λy1=>
Zb (iter (σ:=(Int×Int)) (τ:=Int) (λsa=>
cond (decide (sa.2<zp y1)) (Zb (idx y1 (w64 (sa.2-1))) λxa=>
Zb (idx y1 sa.2) λxb=>
Zb (zdu xa xb) λya=>
Ob (.inl (w64 (sa.1+ya),w64 (sa.2+1)))) (Ob (.inr sa.1))) big (0,1)) λta=>
Ob ta
def zb8 (c:Int) (b:Int) (a:Int):Option Bool:=
Zb (cond (decide (c>=b)) (Ob (decide (c<=a))) (Ob Oc)) λc4=>
Ob c4
def ze2 (b:Line) (a:Bool):Option Course:=
cond a (Ob b.2.1) (Ob b.1)
def ze9 (a:Plan) (b:zL):Option Bool:=
Zb (zah b.1 0 (w64 (zp a.2.1-1))) λy1=>
Ob y1
def zfU (a:zL):Option zl:=
Ob ((a.1,!a.2.1,()):zl)
def zdJ (a:zcw) (b:zl):Option Int:=
Zb (iter (σ:=Int) (τ:=Unit⊕Int) (λs5=>
cond (decide (s5<zp a.2.2.1)) (Zb (idx a.2.2.1 s5) λx9=>
cond (x9==b) (Ob (.inr (.inr s5))) (Ob (.inl (w64 (s5+1))))) (Ob (.inr (.inl ())))) big 0) λta=>
alt (λbb=>Ob (-1)) (λba=>Ob ba) ta
def zhP (a:zL):Option zl:=
Ob ((a.1,a.2.1,()):zl)
def zfa (c:zcw) (a:Int) (b:Int):Option Bool:=
cond (c.2.1==2) (Ob (a !=b)) (cond (c.2.1==3) (Zb (cond (a !=b) (Zb (zq6 (w64 (a+b)) 2) λx7=>
Ob (x7==0)) (Ob Oc)) λc5=>
Ob c5) (cond (c.2.1==4) (Zb (cond (a==0) (cond (decide (b>0)) (Ob Od) (cond (decide (a>0)) (Ob (b==0)) (Ob Oc))) (cond (decide (a>0)) (Ob (b==0)) (Ob Oc))) λca=>
Ob ca) (cond (c.2.1==5) (Zb (cond (a==0) (cond (b==c.2.2.2.1) (Ob Od) (cond (decide (a>0)) (Ob (b==0)) (Ob Oc))) (cond (decide (a>0)) (Ob (b==0)) (Ob Oc))) λcc=>
Ob cc) (cond (c.2.1==6) (Zb (cond (a==0) (cond (b==c.2.2.2.1) (Ob Od) (cond (a==c.2.2.2.1) (Ob (b==0)) (Ob Oc))) (cond (a==c.2.2.2.1) (Ob (b==0)) (Ob Oc))) λcd=>
Ob cd) (Ob Oc)))))
def zcX (a:Plan) (b:zL) (c:zL):Option Bool:=
Zb (zfU b) λy3=>
Zb (zfK a y3) λy4=>
Zb (idx a.1 y4) λx5=>
Zb (zfU b) λyc=>
Zb (zdJ x5 yc) λya=>
Zb (zhP c) λyd=>
Zb (zdJ x5 yd) λyb=>
Zb (cond (decide (ya>=0)) (cond (decide (yb>=0)) (Zb (zfa x5 ya yb) λye=>
Ob ye) (Ob Oc)) (Ob Oc)) λca=>
Ob ca
def zeV (b:Plan) (a:List zL):Option Bool:=
Zb (iter (σ:=Int) (τ:=Unit⊕Bool) (λsa=>
cond (decide (sa<zp a)) (Zb (idx a sa) λxa=>
Zb (ze9 b xa) λya=>
cond (!ya) (Ob (.inr (.inr Oc))) (cond (decide (sa>0)) (Zb (idx a (w64 (sa-1))) λxb=>
Zb (idx a sa) λxd=>
Zb (zcX b xb xd) λyb=>
cond (!yb) (Ob (.inr (.inr Oc))) (Ob (.inl (w64 (sa+1))))) (Ob (.inl (w64 (sa+1)))))) (Ob (.inr (.inl ())))) big 0) λta=>
alt (λbb=>Zb (zah (zp a) 1 2000) λyc=>
Ob yc) (λba=>Ob ba) ta
def zcm (b:Plan) (a:List zL):Option Int:=
Zb (iter (σ:=(Int×Int)) (τ:=Int) (λs6=>
cond (decide (s6.2<zp a)) (Zb (idx a s6.2) λxa=>
Zb (zaM b xa.1) λya=>
Ob (.inl (w64 (s6.1+ya),w64 (s6.2+1)))) (Ob (.inr s6.1))) big (0,0)) λta=>
Ob ta
def zbx (c:Int) (b:Int) (a:Int):Option Bool:=
Zb (cond (decide (c>=b)) (Ob (decide (c<=a))) (Ob Oc)) λc4=>
Ob c4
def zev (a:Train):Option Bool:=
Zb (Zb (zbx a.1 1000 80000) λya=>
cond (!ya) (Ob Od) (Zb (zbx a.2.1 1 60000) λyb=>
cond (!yb) (Ob Od) (Zb (zbx a.2.2.1 1 25000) λyc=>
cond (!yc) (Ob Od) (Zb (zbx a.2.2.2.1 1 200000) λyd=>
cond (!yd) (Ob Od) (Zb (zbx a.2.2.2.2.1 1 200000) λye=>
cond (!ye) (Ob Od) (Zb (zbx a.2.2.2.2.2.1 1 2000000) λyf=>
cond (!yf) (Ob Od) (Zb (zbx a.2.2.2.2.2.2.1 0 100000) λyg=>
cond (!yg) (Ob Od) (Zb (zbx a.2.2.2.2.2.2.2.1 0 10000) λyh=>
cond (!yh) (Ob Od) (Zb (zbx a.2.2.2.2.2.2.2.2.1 0 100) λyi=>
cond (!yi) (Ob Od) (Zb (zbx (zp a.2.2.2.2.2.2.2.2.2.1) 1 8) λyj=>
Ob (!yj))))))))))) λca=>
cond ca (Ob Oc) (Zb (iter (σ:=Int) (τ:=Unit⊕Bool) (λsa=>
cond (decide (sa<zp a.2.2.2.2.2.2.2.2.2.1)) (Zb (idx a.2.2.2.2.2.2.2.2.2.1 sa) λxa=>
Zb (zbx xa 1 1000) λyk=>
cond (!yk) (Ob (.inr (.inr Oc))) (Ob (.inl (w64 (sa+1))))) (Ob (.inr (.inl ())))) big 0) λta=>
alt (λbb=>Ob Od) (λba=>Ob ba) ta)
def zew (d:Plan) (c:List zL) (e:Train) (b:Int) (a:List Int):Option Bool:=
Zb (Zb (zcE d) λya=>
cond (!ya) (Ob Od) (Zb (zeV d c) λyb=>
cond (!yb) (Ob Od) (Zb (zev e) λyc=>
cond (!yc) (Ob Od) (Zb (zbx b 0 (w64 (zp e.2.2.2.2.2.2.2.2.2.1-1))) λyd=>
cond (!yd) (Ob Od) (Zb (zbx (zp a) 2 100) λye=>
cond (!ye) (Ob Od) (Zb (idx a 0) λxa=>
Ob (decide (xa<e.2.1)))))))) λca=>
cond ca (Ob Oc) (Zb (iter (σ:=Int) (τ:=Unit⊕Bool) (λsa=>
cond (decide (sa<zp a)) (Zb (idx a sa) λxb=>
Zb (idx a (w64 (sa-1))) λxd=>
cond (decide (xb<=xd)) (Ob (.inr (.inr Oc))) (Ob (.inl (w64 (sa+1))))) (Ob (.inr (.inl ())))) big 1) λta=>
alt (λbb=>Zb (idx a (w64 (zp a-1))) λxe=>
Zb (zcm d c) λyf=>
Ob (decide (xe<=yf))) (λba=>Ob ba) ta)
def zU (b:Train) (a:zd):Option Int:=
Zb (zdi .i64 a.2.1 (w64 (10*b.1))) λx1=>
Ob x1
def zbe (a:zaf) (b:Int):Option Int:=
Zb (iter (σ:=(Int×Int)) (τ:=Unit⊕Int) (λsa=>
cond (decide (sa.2<zp a.2.1)) (Zb (idx a.2.1 sa.2) λxa=>
Zb (zaM a.1 xa.1) λya=>
cond (decide (b<w64 (sa.1+ya))) (Zb (idx a.2.1 sa.2) λxb=>
cond xb.2.1 (Zb (idx a.2.1 sa.2) λxd=>
Zb (idx a.1.2.1 xd.1) λxe=>
Ob (.inr (.inr (w64 (0-xe.2.2.2.2.1))))) (Zb (idx a.2.1 sa.2) λxf=>
Zb (idx a.1.2.1 xf.1) λxg=>
Ob (.inr (.inr xg.2.2.2.2.1)))) (cond (sa.2==w64 (zp a.2.1-1)) (Zb (idx a.2.1 sa.2) λxh=>
cond xh.2.1 (Zb (idx a.2.1 sa.2) λxi=>
Zb (idx a.1.2.1 xi.1) λxj=>
Ob (.inr (.inr (w64 (0-xj.2.2.2.2.1))))) (Zb (idx a.2.1 sa.2) λxk=>
Zb (idx a.1.2.1 xk.1) λxl=>
Ob (.inr (.inr xl.2.2.2.2.1)))) (Ob (.inl (w64 (sa.1+ya),w64 (sa.2+1)))))) (Ob (.inr (.inl ())))) big (0,0)) λta=>
alt (λbb=>Ob 0) (λba=>Ob ba) ta
def zdV (c:Train) (b:Int) (a:Int) (d:Int) (e:Int):Option (Int×Int×Int×Int):=
Zb (idx c.2.2.2.2.2.2.2.2.2.1 e) λx3=>
Zb (zdi .i64 (w64 (w64 (x3*c.1)*981)) 100000) λx4=>
cond (decide (a>0)) (Zb (zdi .i64 (w64 (c.2.2.2.1*a)) 4) λx6=>
cond (decide (b>0)) (Zb (zdi .i64 (w64 (1000*c.2.2.2.2.2.1)) b) λx8=>
cond (decide (a<0)) (Zb (zdi .i64 (w64 (c.2.2.2.2.1*w64 (0-a))) 4) λxa=>
Zb (zdi .i64 (w64 (c.2.2.2.2.2.2.2.1*b)) 1000) λxb=>
Zb (zdi .i64 (w64 (w64 (c.1*d)*981)) 100000) λxd=>
Ob (min (min x6 x4) x8,min xa x4,w64 (c.2.2.2.2.2.2.1+xb),xd)) (Zb (zdi .i64 (w64 (c.2.2.2.2.2.2.2.1*b)) 1000) λxe=>
Zb (zdi .i64 (w64 (w64 (c.1*d)*981)) 100000) λxf=>
Ob (min (min x6 x4) x8,0,w64 (c.2.2.2.2.2.2.1+xe),xf))) (cond (decide (a<0)) (Zb (zdi .i64 (w64 (c.2.2.2.2.1*w64 (0-a))) 4) λxg=>
Zb (zdi .i64 (w64 (c.2.2.2.2.2.2.2.1*b)) 1000) λxh=>
Zb (zdi .i64 (w64 (w64 (c.1*d)*981)) 100000) λxi=>
Ob (min x6 x4,min xg x4,w64 (c.2.2.2.2.2.2.1+xh),xi)) (Zb (zdi .i64 (w64 (c.2.2.2.2.2.2.2.1*b)) 1000) λxj=>
Zb (zdi .i64 (w64 (w64 (c.1*d)*981)) 100000) λxk=>
Ob (min x6 x4,0,w64 (c.2.2.2.2.2.2.1+xj),xk)))) (cond (decide (a<0)) (Zb (zdi .i64 (w64 (c.2.2.2.2.1*w64 (0-a))) 4) λxl=>
Zb (zdi .i64 (w64 (c.2.2.2.2.2.2.2.1*b)) 1000) λxm=>
Zb (zdi .i64 (w64 (w64 (c.1*d)*981)) 100000) λxn=>
Ob (0,min xl x4,w64 (c.2.2.2.2.2.2.1+xm),xn)) (Zb (zdi .i64 (w64 (c.2.2.2.2.2.2.2.1*b)) 1000) λxo=>
Zb (zdi .i64 (w64 (w64 (c.1*d)*981)) 100000) λxp=>
Ob (0,0,w64 (c.2.2.2.2.2.2.1+xo),xp)))
def zaQ (e:Train) (a:zd) (b:Int) (c:Int) (d:Int):Option (zd×zac×Bool):=
Zb (zdi .i64 a.1 e.1) λx5=>
Zb (zdV e x5 b c d) λy6=>
Zb (cond (decide (w64 (a.1+w64 (100*w64 (w64 (w64 (y6.1-y6.2.1)-y6.2.2.1)-y6.2.2.2)))<0)) (Ob Od) (cond (a.1==0) (Ob (decide (w64 (w64 (w64 (y6.1-y6.2.1)-y6.2.2.1)-y6.2.2.2)<=0))) (Ob Oc))) λca=>
cond ca (Ob (((0,w64 (a.2.1+0),()):zd),(0,0,0,0,0,w64 (a.1*a.1),()),decide (0<=w64 (25000*e.1)))) (Ob (((w64 (a.1+w64 (100*w64 (w64 (w64 (y6.1-y6.2.1)-y6.2.2.1)-y6.2.2.2))),w64 (a.2.1+w64 (a.1+w64 (100*w64 (w64 (w64 (y6.1-y6.2.1)-y6.2.2.1)-y6.2.2.2)))),()):zd),((w64 (w64 (200*y6.1)*w64 (a.1+w64 (100*w64 (w64 (w64 (y6.1-y6.2.1)-y6.2.2.1)-y6.2.2.2)))),w64 (w64 (200*y6.2.1)*w64 (a.1+w64 (100*w64 (w64 (w64 (y6.1-y6.2.1)-y6.2.2.1)-y6.2.2.2)))),w64 (w64 (200*y6.2.2.1)*w64 (a.1+w64 (100*w64 (w64 (w64 (y6.1-y6.2.1)-y6.2.2.1)-y6.2.2.2)))),w64 (w64 (200*y6.2.2.2)*w64 (a.1+w64 (100*w64 (w64 (w64 (y6.1-y6.2.1)-y6.2.2.1)-y6.2.2.2)))),w64 (w64 (10000*w64 (w64 (w64 (y6.1-y6.2.1)-y6.2.2.1)-y6.2.2.2))*w64 (w64 (w64 (y6.1-y6.2.1)-y6.2.2.1)-y6.2.2.2)),0,()):zac),decide (w64 (a.1+w64 (100*w64 (w64 (w64 (y6.1-y6.2.1)-y6.2.2.1)-y6.2.2.2)))<=w64 (25000*e.1))))
def zdW (d:Plan) (c:List zL) (a:Int) (b:Int):Option (List Cover):=
Zb (iter (σ:=(List Cover×Int×Int)) (τ:=List Cover) (λsa=>
cond (decide (sa.2.2<zp c)) (Zb (idx c sa.2.2) λxa=>
Zb (zaM d xa.1) λya=>
cond (decide (w64 (max (w64 (a-b)) sa.2.1-sa.2.1)>=w64 (min a (w64 (sa.2.1+ya))-sa.2.1))) (Ob (.inl (sa.1,w64 (sa.2.1+ya),w64 (sa.2.2+1)))) (Zb (idx c sa.2.2) λxb=>
cond xb.2.1 (Zb (idx c sa.2.2) λxd=>
Zb (zde 24 sa.1 ([((xd.1,w64 (ya-w64 (min a (w64 (sa.2.1+ya))-sa.2.1)),w64 (ya-w64 (max (w64 (a-b)) sa.2.1-sa.2.1)),()):Cover)])) λxe=>
Ob (.inl (xe,w64 (sa.2.1+ya),w64 (sa.2.2+1)))) (Zb (idx c sa.2.2) λxf=>
Zb (zde 24 sa.1 ([((xf.1,w64 (max (w64 (a-b)) sa.2.1-sa.2.1),w64 (min a (w64 (sa.2.1+ya))-sa.2.1),()):Cover)])) λxg=>
Ob (.inl (xg,w64 (sa.2.1+ya),w64 (sa.2.2+1)))))) (Ob (.inr sa.1))) big ([],0,0)) λta=>
Ob ta
def zdK (c:Plan) (b:List zL) (d:Train) (a:Int):Option Int:=
Zb (zdW c b a d.2.1) λy1=>
Zb (iter (σ:=(Int×Int)) (τ:=Int) (λs8=>
cond (decide (s8.2<zp y1)) (Zb (idx y1 s8.2) λxa=>
Zb (idx c.2.1 xa.1) λxb=>
Ob (.inl (min s8.1 xb.2.2.2.1,w64 (s8.2+1)))) (Ob (.inr s8.1))) big (d.2.2.1,0)) λta=>
Ob ta
def zef (a:zaf) (b:zd):Option Bool:=
Zb (iter (σ:=(Int×Int×Int)) (τ:=(Bool×Int×Int)) (λsa=>
Zb (zU a.2.2.1 (sa.2.1,sa.2.2,())) λyb=>
cond (decide (yb>a.2.2.2.2.1)) (Ob (.inr (Oc,sa.2.1,sa.2.2))) (Zb (zdi .i64 sa.2.1 a.2.2.1.1) λxa=>
Zb (zU a.2.2.1 (sa.2.1,sa.2.2,())) λyc=>
Zb (zdK a.1 a.2.1 a.2.2.1 yc) λyd=>
cond (decide (xa>yd)) (Ob (.inr (Oc,sa.2.1,sa.2.2))) (cond (sa.2.1==0) (Ob (.inr (Od,sa.2.1,sa.2.2))) (cond (sa.1==36000) (Ob (.inr (Oc,sa.2.1,sa.2.2))) (Zb (zU a.2.2.1 (sa.2.1,sa.2.2,())) λye=>
Zb (zbe a ye) λyf=>
Zb (zaQ a.2.2.1 (sa.2.1,sa.2.2,()) (-4) yf a.2.2.2.1) λya=>
cond (!ya.2.2) (Ob (.inr (Oc,ya.1.1,ya.1.2.1))) (Ob (.inl (w64 (sa.1+1),ya.1.1,ya.1.2.1)))))))) big (0,b.1,b.2.1)) λta=>
Ob ta.1
def zcF (a:zaf) (b:zd):Option (Int×Bool):=
Zb (iter (σ:=Int) (τ:=Unit⊕(Int×Bool)) (λsa=>
cond (decide (sa>=(-4))) (Zb (zU a.2.2.1 b) λyb=>
Zb (zbe a yb) λyc=>
Zb (zaQ a.2.2.1 b sa yc a.2.2.2.1) λya=>
cond ya.2.2 (Zb (zef a ya.1) λyd=>
cond yd (Ob (.inr (.inr (sa,Od)))) (Ob (.inl (w64 (sa-1))))) (Ob (.inl (w64 (sa-1))))) (Ob (.inr (.inl ())))) big 4) λta=>
alt (λbb=>Ob (0,Oc)) (λba=>Ob (ba.1,ba.2)) ta
def zbV (d:Train) (e:zd) (a:Int) (b:Int) (c:Int):Option (Int×Int):=
Zb (zdi .i64 e.1 d.1) λx3=>
Zb (zdV d x3 a b c) λy4=>
Zb (zaQ d e a b c) λy5=>
Zb (zdi .i64 (w64 (w64 (w64 (y4.1*y5.1.1)+w64 (1000*d.1))-1)) (w64 (1000*d.1))) λxa=>
Zb (zdi .i64 (w64 (w64 (y4.2.1*y5.1.1)*d.2.2.2.2.2.2.2.2.1)) (w64 (100000*d.1))) λxb=>
Ob (xa,xb)
def zeW (b:zac) (a:zac):Option zac:=
Ob ((w64 (b.1+a.1),w64 (b.2.1+a.2.1),w64 (b.2.2.1+a.2.2.1),w64 (b.2.2.2.1+a.2.2.2.1),w64 (b.2.2.2.2.1+a.2.2.2.2.1),w64 (b.2.2.2.2.2.1+a.2.2.2.2.2.1),()):zac)
def zex (e:Plan) (d:List zL) (c:Train) (a:Int) (b:List Int):Option (List Leg×Bool):=
Zb (idx b 0) λx3=>
Zb (iter (σ:=(List Leg×Int×Int×Int)) (τ:=(List Leg×Int×Int)⊕(List Leg×Bool)) (λsb=>
cond (decide (sb.2.1<zp b)) (Zb (idx b sb.2.1) λxb=>
Zb (iter (σ:=(Int×Int×Int×Int×Int×Int×Int×Int×Int×Int×Int×Int)) (τ:=(Train×zd×Int×List Int×Int×Int×Int×Int×Bool×Int×Int×Int×Int×Int×Int×Int×Int×Int×Int×Int)⊕(List Leg×Bool×Int×Int×Int×Int×Int×Int×Int×Int×Int×Int×Int)) (λsa=>
cond (decide (sa.2.2.2.2.2.2.2.2.2.2.1>0)) (cond (sa.1==36000) (Ob (.inr (.inr ([],Oc,sa.2.1,sa.2.2.1,sa.2.2.2.1,sa.2.2.2.2.1,sa.2.2.2.2.2.1,sa.2.2.2.2.2.2.1,sa.2.2.2.2.2.2.2.1,sa.2.2.2.2.2.2.2.2.1,sa.2.2.2.2.2.2.2.2.2.1,sa.2.2.2.2.2.2.2.2.2.2.1,sa.2.2.2.2.2.2.2.2.2.2.2)))) (cond (decide (sa.2.2.2.2.2.2.2.2.2.2.2>10000000000000000)) (Ob (.inr (.inr ([],Oc,sa.2.1,sa.2.2.1,sa.2.2.2.1,sa.2.2.2.2.1,sa.2.2.2.2.2.1,sa.2.2.2.2.2.2.1,sa.2.2.2.2.2.2.2.1,sa.2.2.2.2.2.2.2.2.1,sa.2.2.2.2.2.2.2.2.2.1,sa.2.2.2.2.2.2.2.2.2.2.1,sa.2.2.2.2.2.2.2.2.2.2.2)))) (Zb (zcF ((e,d,c,a,xb,()):zaf) (sa.2.2.2.2.2.2.2.2.2.2.1,sa.2.2.2.2.2.2.2.2.2.2.2,())) λyc=>
cond (!yc.2) (Ob (.inr (.inr ([],Oc,sa.2.1,sa.2.2.1,sa.2.2.2.1,sa.2.2.2.2.1,sa.2.2.2.2.2.1,sa.2.2.2.2.2.2.1,sa.2.2.2.2.2.2.2.1,sa.2.2.2.2.2.2.2.2.1,sa.2.2.2.2.2.2.2.2.2.1,sa.2.2.2.2.2.2.2.2.2.2.1,sa.2.2.2.2.2.2.2.2.2.2.2)))) (Zb (zU c (sa.2.2.2.2.2.2.2.2.2.2.1,sa.2.2.2.2.2.2.2.2.2.2.2,())) λyl=>
Zb (zbe ((e,d,c,a,xb,()):zaf) yl) λyh=>
Zb (zbV c (sa.2.2.2.2.2.2.2.2.2.2.1,sa.2.2.2.2.2.2.2.2.2.2.2,()) yc.1 yh a) λyi=>
Zb (zaQ c (sa.2.2.2.2.2.2.2.2.2.2.1,sa.2.2.2.2.2.2.2.2.2.2.2,()) yc.1 yh a) λyd=>
Zb (zeW (sa.2.2.1,sa.2.2.2.1,sa.2.2.2.2.1,sa.2.2.2.2.2.1,sa.2.2.2.2.2.2.1,sa.2.2.2.2.2.2.2.1,()) yd.2.1) λya=>
Ob (.inl (w64 (sa.1+1),w64 (sa.2.1+100),ya.1,ya.2.1,ya.2.2.1,ya.2.2.2.1,ya.2.2.2.2.1,ya.2.2.2.2.2.1,max sa.2.2.2.2.2.2.2.2.1 yi.1,max sa.2.2.2.2.2.2.2.2.2.1 yi.2,yd.1.1,yd.1.2.1)))))) (Zb (zU c (sa.2.2.2.2.2.2.2.2.2.2.1,sa.2.2.2.2.2.2.2.2.2.2.2,())) λye=>
Zb (idx b sb.2.1) λxa=>
cond (decide (ye<w64 (xa-1000))) (cond (sa.1==36000) (Ob (.inr (.inr ([],Oc,sa.2.1,sa.2.2.1,sa.2.2.2.1,sa.2.2.2.2.1,sa.2.2.2.2.2.1,sa.2.2.2.2.2.2.1,sa.2.2.2.2.2.2.2.1,sa.2.2.2.2.2.2.2.2.1,sa.2.2.2.2.2.2.2.2.2.1,sa.2.2.2.2.2.2.2.2.2.2.1,sa.2.2.2.2.2.2.2.2.2.2.2)))) (cond (decide (sa.2.2.2.2.2.2.2.2.2.2.2>10000000000000000)) (Ob (.inr (.inr ([],Oc,sa.2.1,sa.2.2.1,sa.2.2.2.1,sa.2.2.2.2.1,sa.2.2.2.2.2.1,sa.2.2.2.2.2.2.1,sa.2.2.2.2.2.2.2.1,sa.2.2.2.2.2.2.2.2.1,sa.2.2.2.2.2.2.2.2.2.1,sa.2.2.2.2.2.2.2.2.2.2.1,sa.2.2.2.2.2.2.2.2.2.2.2)))) (Zb (zcF ((e,d,c,a,xb,()):zaf) (sa.2.2.2.2.2.2.2.2.2.2.1,sa.2.2.2.2.2.2.2.2.2.2.2,())) λyf=>
cond (!yf.2) (Ob (.inr (.inr ([],Oc,sa.2.1,sa.2.2.1,sa.2.2.2.1,sa.2.2.2.2.1,sa.2.2.2.2.2.1,sa.2.2.2.2.2.2.1,sa.2.2.2.2.2.2.2.1,sa.2.2.2.2.2.2.2.2.1,sa.2.2.2.2.2.2.2.2.2.1,sa.2.2.2.2.2.2.2.2.2.2.1,sa.2.2.2.2.2.2.2.2.2.2.2)))) (Zb (zU c (sa.2.2.2.2.2.2.2.2.2.2.1,sa.2.2.2.2.2.2.2.2.2.2.2,())) λym=>
Zb (zbe ((e,d,c,a,xb,()):zaf) ym) λyj=>
Zb (zbV c (sa.2.2.2.2.2.2.2.2.2.2.1,sa.2.2.2.2.2.2.2.2.2.2.2,()) yf.1 yj a) λyk=>
Zb (zaQ c (sa.2.2.2.2.2.2.2.2.2.2.1,sa.2.2.2.2.2.2.2.2.2.2.2,()) yf.1 yj a) λyg=>
Zb (zeW (sa.2.2.1,sa.2.2.2.1,sa.2.2.2.2.1,sa.2.2.2.2.2.1,sa.2.2.2.2.2.2.1,sa.2.2.2.2.2.2.2.1,()) yg.2.1) λyb=>
Ob (.inl (w64 (sa.1+1),w64 (sa.2.1+100),yb.1,yb.2.1,yb.2.2.1,yb.2.2.2.1,yb.2.2.2.2.1,yb.2.2.2.2.2.1,max sa.2.2.2.2.2.2.2.2.1 yk.1,max sa.2.2.2.2.2.2.2.2.2.1 yk.2,yg.1.1,yg.1.2.1)))))) (Ob (.inr (.inl (c,(sa.2.2.2.2.2.2.2.2.2.2.1,sa.2.2.2.2.2.2.2.2.2.2.2,()),ye,b,sb.2.1,xa,xa,w64 (xa-1000),decide (ye<w64 (xa-1000)),sa.2.1,sa.2.2.1,sa.2.2.2.1,sa.2.2.2.2.1,sa.2.2.2.2.2.1,sa.2.2.2.2.2.2.1,sa.2.2.2.2.2.2.2.1,sa.2.2.2.2.2.2.2.2.1,sa.2.2.2.2.2.2.2.2.2.1,sa.2.2.2.2.2.2.2.2.2.2.1,sa.2.2.2.2.2.2.2.2.2.2.2)))))) big (0,0,0,0,0,0,0,0,0,0,sb.2.2.1,sb.2.2.2)) λta=>
alt (λba=>Zb (zU c (ba.2.2.2.2.2.2.2.2.2.2.2.2.2.2.2.2.2.2.1,ba.2.2.2.2.2.2.2.2.2.2.2.2.2.2.2.2.2.2.2,())) λyn=>
Zb (zde 80 sb.1 ([(ba.2.2.2.2.2.2.2.2.2.1,yn,(ba.2.2.2.2.2.2.2.2.2.2.1,ba.2.2.2.2.2.2.2.2.2.2.2.1,ba.2.2.2.2.2.2.2.2.2.2.2.2.1,ba.2.2.2.2.2.2.2.2.2.2.2.2.2.1,ba.2.2.2.2.2.2.2.2.2.2.2.2.2.2.1,ba.2.2.2.2.2.2.2.2.2.2.2.2.2.2.2.1,()),ba.2.2.2.2.2.2.2.2.2.2.2.2.2.2.2.2.1,ba.2.2.2.2.2.2.2.2.2.2.2.2.2.2.2.2.2.1,())])) λxd=>
Ob (.inl (xd,w64 (sb.2.1+1),ba.2.2.2.2.2.2.2.2.2.2.2.2.2.2.2.2.2.2.1,ba.2.2.2.2.2.2.2.2.2.2.2.2.2.2.2.2.2.2.2))) (λbb=>Ob (.inr (.inr (bb.1,bb.2.1)))) ta) (Ob (.inr (.inl (sb.1,sb.2.2.1,sb.2.2.2))))) big ([],1,0,w64 (w64 (10*c.1)*x3))) λtb=>
alt (λbc=>Ob (bc.1,decide (bc.2.2<=10000000000000000))) (λbd=>Ob (bd.1,bd.2)) tb
def zfV (d:Plan) (c:List zL) (e:Train) (a:Int) (b:List Int):Option (List Int×Bool):=
Zb (zew d c e a b) λy1=>
cond (!y1) (Ob ([],Oc)) (Zb (zex d c e a b) λy3=>
Zb (iter (σ:=(List Int×Int)) (τ:=List Int) (λs9=>
cond (decide (s9.2<zp y3.1)) (Zb (idx y3.1 s9.2) λxa=>
Zb (zde 8 s9.1 ([xa.1])) λxb=>
Ob (.inl (xb,w64 (s9.2+1)))) (Ob (.inr s9.1))) big ([],0)) λta=>
Ob (ta,y3.2))
def zc7 (b:Plan) (c:Line) (a:Bool):Option (List Int×Bool):=
Zb (ze2 c a) λy1=>
Zb (Zb (zeV b y1.1) λyb=>
cond (!yb) (Ob Od) (Zb (zb8 (zp y1.2.1) 2 60) λyc=>
cond (!yc) (Ob Od) (cond ((zp y1.2.2.1)!=zp y1.2.1) (Ob Od) (Zb (idx y1.2.2.1 0) λxa=>
cond (xa !=0) (Ob Od) (Zb (idx y1.2.2.1 (w64 (zp y1.2.2.1-1))) λxb=>
Ob (xb !=0)))))) λca=>
cond ca (Ob ([],Oc)) (Zb (iter (σ:=Int) (τ:=Unit⊕(List Int×Bool)) (λsa=>
cond (decide (sa<zp y1.2.1)) (Zb (idx y1.2.1 sa) λxd=>
Zb (zcm b y1.1) λyd=>
Zb (zb8 xd 1 yd) λye=>
cond (!ye) (Ob (.inr (.inr ([],Oc)))) (Zb (idx y1.2.2.1 sa) λxe=>
Zb (zb8 xe 0 600) λyf=>
cond (!yf) (Ob (.inr (.inr ([],Oc)))) (cond (decide (sa>0)) (Zb (idx y1.2.1 sa) λxf=>
Zb (idx y1.2.1 (w64 (sa-1))) λxg=>
cond (decide (xf<=xg)) (Ob (.inr (.inr ([],Oc)))) (Ob (.inl (w64 (sa+1))))) (Ob (.inl (w64 (sa+1))))))) (Ob (.inr (.inl ())))) big 0) λta=>
alt (λbb=>Zb (zfV b y1.1 c.2.2.1 c.2.2.2.1 y1.2.1) λya=>
cond (!ya.2) (Ob ([],Oc)) (Zb (iter (σ:=(List Int×Int)) (τ:=List Int) (λsb=>
cond (decide (sb.2<zp ya.1)) (Zb (idx ya.1 sb.2) λxh=>
Zb (zdi .i64 (w64 (xh+999)) 1000) λxi=>
Zb (zde 8 sb.1 ([max 1 xi])) λxj=>
Ob (.inl (xj,w64 (sb.2+1)))) (Ob (.inr sb.1))) big ([],0)) λtb=>
Ob (tb,Od))) (λba=>Ob (ba.1,ba.2)) ta)
def zfb (b:Plan) (c:Line) (a:Bool):Option (List Int):=
Zb (zc7 b c a) λy1=>
Ob y1.1
def zbq (c:Plan) (b:Line) (a:Bool):Option (List Int):=
Zb (ze2 b a) λy1=>
Zb (zfb c b a) λy3=>
Zb (iter (σ:=(List Int×Int)) (τ:=List Int) (λsa=>
cond (decide (sa.2<zp y3)) (Zb (idx sa.1 sa.2) λxa=>
Zb (idx y3 sa.2) λxb=>
Zb (idx y1.2.2.1 (w64 (sa.2+1))) λxd=>
Zb (zde 8 sa.1 ([w64 (w64 (xa+xb)+xd)])) λxe=>
Ob (.inl (xe,w64 (sa.2+1)))) (Ob (.inr sa.1))) big ([0],0)) λta=>
Ob ta
def zeg (b:Plan) (a:Line):Option Bool:=
Zb (zb8 a.2.2.2.2.1 0 3600) λy1=>
cond (!y1) (Ob Oc) (Zb (iter (σ:=Int) (τ:=Unit⊕Bool) (λsa=>
cond (decide (sa<2)) (Zb (zc7 b a (sa==1)) λyb=>
cond (!yb.2) (Ob (.inr (.inr Oc))) (Zb (zbq b a (sa==1)) λya=>
Zb (idx ya (w64 (zp ya-1))) λxa=>
cond (decide (xa>50000)) (Ob (.inr (.inr Oc))) (Ob (.inl (w64 (sa+1)))))) (Ob (.inr (.inl ())))) big 0) λta=>
alt (λbb=>Ob Od) (λba=>Ob ba) ta)
def zcY (b:Plan) (a:Service):Option Bool:=
Zb (Zb (zcE b) λy7=>
cond (!y7) (Ob Od) (Zb (zb8 (zp a.1) 1 20) λy9=>
cond (!y9) (Ob Od) (cond ((zp a.2.1)!=zp a.1) (Ob Od) (Ob ((zp a.2.2.1)!=zp a.1))))) λc6=>
cond c6 (Ob Oc) (Zb (iter (σ:=Int) (τ:=Unit⊕Bool) (λsa=>
cond (decide (sa<zp a.1)) (Zb (idx a.1 sa) λxa=>
Zb (zeg b xa) λya=>
cond (!ya) (Ob (.inr (.inr Oc))) (Zb (idx a.2.1 sa) λxb=>
Zb (zb8 xb 30 7200) λyb=>
cond (!yb) (Ob (.inr (.inr Oc))) (Zb (idx a.2.2.1 sa) λxd=>
Zb (idx a.2.1 sa) λxe=>
Zb (zb8 xd 0 (w64 (xe-1))) λyc=>
cond (!yc) (Ob (.inr (.inr Oc))) (Ob (.inl (w64 (sa+1))))))) (Ob (.inr (.inl ())))) big 0) λta=>
alt (λbb=>Ob Od) (λba=>Ob ba) ta)
def zhl (a:Plan) (b:Service):Option Bool:=
Zb (cond (decide (zp a.1>8)) (Ob Od) (cond (decide (zp a.2.1>8)) (Ob Od) (cond (decide (zp b.1>2)) (Ob Od) (Zb (zcE a) λy9=>
Ob (!y9))))) λc5=>
cond c5 (Ob Oc) (Zb (iter (σ:=(Int×Int)) (τ:=Int) (λsa=>
cond (decide (sa.2<zp a.2.1)) (Zb (zaM a sa.2) λya=>
Ob (.inl (w64 (sa.1+ya),w64 (sa.2+1)))) (Ob (.inr sa.1))) big (0,0)) λta=>
Zb (iter (σ:=Int) (τ:=Unit⊕Bool) (λsb=>
cond (decide (sb<zp b.1)) (Zb (idx b.1 sb) λxa=>
cond (decide (zp xa.1.2.1>6)) (Ob (.inr (.inr Oc))) (cond (decide (zp xa.2.1.2.1>6)) (Ob (.inr (.inr Oc))) (cond (decide (zp xa.1.1>8)) (Ob (.inr (.inr Oc))) (cond (decide (zp xa.2.1.1>8)) (Ob (.inr (.inr Oc))) (cond (decide (xa.2.2.1.2.2.2.2.1<200)) (Ob (.inr (.inr Oc))) (cond (decide (xa.2.2.1.2.2.2.1<200)) (Ob (.inr (.inr Oc))) (cond (decide (xa.2.2.1.1>4000)) (Ob (.inr (.inr Oc))) (Ob (.inl (w64 (sb+1))))))))))) (Ob (.inr (.inl ())))) big 0) λtb=>
alt (λbb=>Zb (cond (decide (ta<=150000)) (Zb (zcY a b) λyb=>
Ob yb) (Ob Oc)) λca=>
Ob ca) (λba=>Ob ba) tb)
def zcg (c:Day) (a:Int) (b:Bool):Option Course:=
cond b (Zb (idx c.2.1.1 a) λx3=>
Ob x3.2.1) (Zb (idx c.2.1.1 a) λx4=>
Ob x4.1)
def zeh (c:Int) (b:Int) (a:Int):Option Bool:=
Zb (cond (decide (c>=b)) (Ob (decide (c<=a))) (Ob Oc)) λc4=>
Ob c4
def zey (b:Plan) (a:List Works):Option Bool:=
Zb (iter (σ:=Int) (τ:=Unit⊕Bool) (λsa=>
cond (decide (sa<zp a)) (Zb (idx a sa) λxa=>
Zb (zb8 xa.1 0 (w64 (zp b.2.1-1))) λya=>
cond (!ya) (Ob (.inr (.inr Oc))) (Zb (idx a sa) λxb=>
Zb (idx a sa) λxd=>
Zb (zb8 xb.2.1 0 xd.2.2.1) λyb=>
cond (!yb) (Ob (.inr (.inr Oc))) (Zb (idx a sa) λxe=>
cond (decide (xe.2.2.1>200000)) (Ob (.inr (.inr Oc))) (Ob (.inl (w64 (sa+1))))))) (Ob (.inr (.inl ())))) big 0) λta=>
alt (λbb=>Ob (decide (zp a<=100))) (λba=>Ob ba) ta
def zfv (a:Day):Option Bool:=
Zb (Zb (zcY a.1 a.2.1) λy9=>
cond (!y9) (Ob Od) (Zb (zey a.1 a.2.2.1) λya=>
cond (!ya) (Ob Od) (Zb (zeh a.2.2.2.1 0 a.2.2.2.2.1) λyb=>
cond (!yb) (Ob Od) (cond (decide (a.2.2.2.2.1>200000)) (Ob Od) (Ob (decide (zp a.2.2.2.2.2.1>60))))))) λc8=>
cond c8 (Ob Oc) (Zb (iter (σ:=Int) (τ:=Unit⊕Bool) (λsa=>
cond (decide (sa<zp a.2.2.2.2.2.1)) (Zb (idx a.2.2.2.2.2.1 sa) λxa=>
Zb (zeh xa.1 0 (w64 (zp a.2.1.1-1))) λyc=>
cond (!yc) (Ob (.inr (.inr Oc))) (Zb (zeh xa.2.2.2.2.1 1 3600) λyd=>
cond (!yd) (Ob (.inr (.inr Oc))) (Zb (zcg a xa.1 xa.2.1) λye=>
Zb (zeh xa.2.2.1 1 (w64 (zp ye.2.1-2))) λyf=>
cond (!yf) (Ob (.inr (.inr Oc))) (Zb (zcg a xa.1 (!xa.2.1)) λyg=>
Zb (zeh xa.2.2.2.1 1 (w64 (zp yg.2.1-2))) λyh=>
cond (!yh) (Ob (.inr (.inr Oc))) (Ob (.inl (w64 (sa+1)))))))) (Ob (.inr (.inl ())))) big 0) λta=>
alt (λbb=>Ob Od) (λba=>Ob ba) ta)
def zdv (a:Day):Option Bool:=
Zb (Zb (zhl a.1 a.2.1) λy8=>
cond y8 (cond (decide (zp a.2.2.2.2.2.1<=4)) (cond (decide (zp a.2.2.1<=6)) (Zb (zfv a) λya=>
cond ya (Ob (decide (w64 (a.2.2.2.2.1-a.2.2.2.1)<=600))) (Ob Oc)) (Ob Oc)) (Ob Oc)) (Ob Oc)) λc7=>
Ob c7
def z5 (c:Int) (b:Int) (a:Int):Option Bool:=
Zb (cond (decide (c>=b)) (Ob (decide (c<=a))) (Ob Oc)) λc4=>
Ob c4
def zcn (a:Line):Option (List Course):=
Ob ([a.1,a.2.1]:List Course)
def zV (c:Int) (b:Int) (a:Int):Option Bool:=
Zb (cond (decide (c>=b)) (Ob (decide (c<=a))) (Ob Oc)) λc4=>
Ob c4
def zaz (a:List zcw) (b:(zcw->Option Bool)):Option Int:=
Zb (iter (σ:=Int) (τ:=Unit⊕Int) (λs5=>
cond (decide (s5<zp a)) (Zb (idx a s5) λx8=>
Zb (b x8) λy9=>
cond y9 (Ob (.inr (.inr s5))) (Ob (.inl (w64 (s5+1))))) (Ob (.inr (.inl ())))) big 0) λta=>
alt (λbb=>Ob (-1)) (λba=>Ob ba) ta
def zan (a:List zcw) (b:(zcw->Option Bool)):Option Bool:=
Zb (zaz a b) λy1=>
Ob (decide (y1>=0))
def zc8 (a:Spot):Option Bool:=
Zb (Zb (zV a.1 (-10000000) 10000000) λy5=>
cond y5 (Zb (zV a.2.1 (-10000000) 10000000) λy7=>
Ob y7) (Ob Oc)) λc4=>
Ob c4
def zfw :Option (List Int):=
Ob (List.replicate 1 0++([1,2,4,3,3,3]:List Int))
def zfc (a:zcw):Option Bool:=
Zb (cond (decide (a.2.1<1)) (Ob Od) (cond (decide (a.2.1>6)) (Ob Od) (Zb (zc8 a.1) λya=>
cond (!ya) (Ob Od) (Zb zfw λyb=>
Zb (idx yb a.2.1) λxa=>
Ob ((zp a.2.2.1)!=xa))))) λca=>
cond ca (Ob Oc) (Zb (cond (a.2.1==5) (Ob Od) (Ob (a.2.1==6))) λcc=>
cond cc (Zb (zV a.2.2.2.1 1 2) λyc=>
Ob yc) (Ob (a.2.2.2.1==0)))
def zfW (a:zcw):Option Bool:=
Zb (zfc a) λy1=>
Ob (!y1)
def zaA (a:List Rail) (b:(Rail->Option Bool)):Option Int:=
Zb (iter (σ:=Int) (τ:=Unit⊕Int) (λs5=>
cond (decide (s5<zp a)) (Zb (idx a s5) λx8=>
Zb (b x8) λy9=>
cond y9 (Ob (.inr (.inr s5))) (Ob (.inl (w64 (s5+1))))) (Ob (.inr (.inl ())))) big 0) λta=>
alt (λbb=>Ob (-1)) (λba=>Ob ba) ta
def zao (a:List Rail) (b:(Rail->Option Bool)):Option Bool:=
Zb (zaA a b) λy1=>
Ob (decide (y1>=0))
def zav (a:Int):Option (List Spot):=
cond (decide (a<0)) Oe (cond (decide (w64 (a-w64 (0-0))>0)) (Zb (zo9 16 (w64 (a-w64 (0-0))) ((0,0,()):Spot)) λx3=>
Zb (slz x3) λx5=>
Ob ([]:List Spot)) (Ob ([])))
def zap (a:List (List Spot)):Option (List Spot):=
Zb (iter (σ:=(Int×Int)) (τ:=Int) (λs4=>
cond (decide (s4.2<zp a)) (Zb (idx a s4.2) λx7=>
cond (decide (w64 (s4.1+zp x7)<0)) Oe (Ob (.inl (w64 (s4.1+zp x7),w64 (s4.2+1))))) (Ob (.inr s4.1))) big (0,0)) λt9=>
Zb (zav t9) λya=>
Zb (iter (σ:=(List Spot×Int)) (τ:=List Spot) (λsa=>
cond (decide (sa.2<zp a)) (Zb (idx a sa.2) λxa=>
Zb (zde 16 sa.1 xa) λxb=>
Ob (.inl (xb,w64 (sa.2+1)))) (Ob (.inr sa.1))) big (ya,0)) λta=>
Ob ta
def zei (b:Plan) (a:Rail):Option (List Spot):=
Zb (idx b.1 a.1) λx5=>
Zb (idx b.1 a.2.1) λx6=>
Zb (zap ([[x5.1],a.2.2.1,[x6.1]])) λy7=>
Ob y7
def zfd (a:Int):Option Int:=
Zb (FloatKind.f64.format.sqrt (FloatKind.f64.nearest a)) λx1=>
Zb (f2i x1) λx2=>
Zb (iter (σ:=Int) (τ:=Int) (λs4=>
cond (decide (w64 (s4*s4)>a)) (Ob (.inl (w64 (s4-1)))) (Ob (.inr s4))) big x2) λt7=>
Zb (iter (σ:=Int) (τ:=Int) (λsa=>
cond (decide (w64 (w64 (sa+1)*w64 (sa+1))<=a)) (Ob (.inl (w64 (sa+1)))) (Ob (.inr sa))) big t7) λta=>
Ob ta
def zc9 (b:Spot) (a:Spot):Option Int:=
Zb (zfd (w64 (w64 (w64 (b.1-a.1)*w64 (b.1-a.1))+w64 (w64 (b.2.1-a.2.1)*w64 (b.2.1-a.2.1))))) λy1=>
Ob y1
def zfe (b:Plan) (a:Rail):Option Bool:=
Zb (Zb (zV a.1 0 (w64 (zp b.1-1))) λyb=>
cond (!yb) (Ob Od) (Zb (zV a.2.1 0 (w64 (zp b.1-1))) λyc=>
cond (!yc) (Ob Od) (cond (decide (zp a.2.2.1>30)) (Ob Od) (Zb (zV a.2.2.2.1 1 50000) λyd=>
cond (!yd) (Ob Od) (Zb (zV a.2.2.2.2.1 (-120) 120) λye=>
Ob (!ye)))))) λc9=>
cond c9 (Ob Oc) (Zb (zei b a) λya=>
Zb (iter (σ:=Int) (τ:=Unit⊕Bool) (λsa=>
cond (decide (sa<zp ya)) (Zb (idx ya sa) λxa=>
Zb (zc8 xa) λyf=>
cond (!yf) (Ob (.inr (.inr Oc))) (cond (decide (sa>0)) (Zb (idx ya (w64 (sa-1))) λxb=>
Zb (zc9 xb xa) λyg=>
Zb (zV yg 1 1000000) λyh=>
cond (!yh) (Ob (.inr (.inr Oc))) (Ob (.inl (w64 (sa+1))))) (Ob (.inl (w64 (sa+1)))))) (Ob (.inr (.inl ())))) big 0) λta=>
alt (λbb=>Ob Od) (λba=>Ob ba) ta)
def zez (a:Rail) (b:Plan):Option Bool:=
Zb (zfe b a) λy1=>
Ob (!y1)
def zcQ (b:Plan) (a:zl):Option Int:=
cond a.2.1 (Zb (idx b.2.1 a.1) λx2=>
Ob x2.2.1) (Zb (idx b.2.1 a.1) λx3=>
Ob x3.1)
def zdL (a:Plan):Option Int:=
Zb (Zb (zV (zp a.1) 1 300) λy5=>
cond (!y5) (Ob Od) (Zb (zV (zp a.2.1) 1 400) λy7=>
Ob (!y7))) λc4=>
cond c4 (Ob 2) (Zb (Zb (zan a.1 (λx=>zfW x)) λya=>
cond ya (Ob Od) (Zb (zao a.2.1 (λx=>zez x a)) λyb=>
Ob yb)) λca=>
cond ca (Ob 2) (Zb (iter (σ:=(Int×List (zl×Bool))) (τ:=List (zl×Bool)⊕Int) (λsb=>
cond (decide (sb.1<zp a.1)) (Zb (idx a.1 sb.1) λxb=>
Zb (iter (σ:=(Int×List (zl×Bool))) (τ:=List (zl×Bool)⊕(Int×List (zl×Bool))) (λsa=>
cond (decide (sa.1<zp xb.2.2.1)) (Zb (idx xb.2.2.1 sa.1) λxa=>
Zb (zV xa.1 0 (w64 (zp a.2.1-1))) λyc=>
cond (!yc) (Ob (.inr (.inr (2,sa.2)))) (cond ((mget sa.2 xa).getD Oc) (Ob (.inr (.inr (2,sa.2)))) (Zb (zcQ a xa) λyd=>
cond (yd !=sb.1) (Ob (.inr (.inr (2,sa.2)))) (Ob (.inl (w64 (sa.1+1),mset sa.2 xa Od)))))) (Ob (.inr (.inl sa.2)))) big (0,sb.2)) λta=>
alt (λba=>Ob (.inl (w64 (sb.1+1),ba))) (λbb=>Ob (.inr (.inr bb.1))) ta) (Ob (.inr (.inl sb.2)))) big (0,([]:List (zl×Bool)))) λtb=>
alt (λbc=>Zb (zu7 bc) λxd=>
cond (xd !=w64 (2*zp a.2.1)) (Ob 2) (Ob 0)) (λbd=>Ob bd) tb))
def zdw (a:Plan):Option (Option zbp×Bool):=
Zb (zdL a) λy1=>
cond (y1 !=0) (Ob ((Oe:Option zbp),Oc)) (Zb (iter (σ:=(Int×List Int)) (τ:=List Int) (λsc=>
cond (decide (sc.1<zp a.2.1)) (Zb (idx a.2.1 sc.1) λxb=>
Zb (zei a xb) λya=>
Zb (iter (σ:=(Int×Int)) (τ:=Int) (λsa=>
cond (decide (sa.2<zp ya)) (Zb (idx ya (w64 (sa.2-1))) λxd=>
Zb (idx ya sa.2) λxe=>
Zb (zc9 xd xe) λyb=>
Ob (.inl (w64 (sa.1+yb),w64 (sa.2+1)))) (Ob (.inr sa.1))) big (0,1)) λta=>
Zb (zde 8 sc.2 ([ta])) λxf=>
Ob (.inl (w64 (sc.1+1),xf))) (Ob (.inr sc.2))) big (0,[])) λtb=>
Zb (iter (σ:=(Int×List (zl×Int))) (τ:=List (zl×Int)) (λsd=>
cond (decide (sd.1<zp a.1)) (Zb (idx a.1 sd.1) λxa=>
Zb (iter (σ:=(Int×List (zl×Int))) (τ:=List (zl×Int)) (λsb=>
cond (decide (sb.1<zp xa.2.2.1)) (Zb (idx xa.2.2.1 sb.1) λxg=>
Ob (.inl (w64 (sb.1+1),mset sb.2 xg sb.1))) (Ob (.inr sb.2))) big (0,sd.2)) λtc=>
Ob (.inl (w64 (sd.1+1),tc))) (Ob (.inr sd.2))) big (0,([]:List (zl×Int)))) λtd=>
Ob (Ob ((a.1,a.2.1,()),tb,td,()),Od))
def zbP (b:zbp) (a:zL):Option Bool:=
Zb (zV a.1 0 (w64 (zp b.1.2.1-1))) λy2=>
Ob y2
def zbb (b:Plan) (a:Int):Option (Int×Int):=
Zb (zdw b) λy1=>
Zb (cond (!y1.2) (Ob Od) (Zb y1.1 λp7=>
Zb (zbP p7 ((a,Oc,()):zL)) λy8=>
Ob (!y8))) λc5=>
cond c5 (Ob (0,2)) (Zb y1.1 λpa=>
Zb (idx pa.2.1 a) λxa=>
Ob (xa,0))
def zeA (a:zL):Option zl:=
Ob ((a.1,!a.2.1,()):zl)
def zfX (c:zaG) (a:Int) (b:Int):Option Bool:=
Ob Oc
def zff (c:zaG) (a:Int) (b:Int):Option Bool:=
Ob (a !=b)
def zb3 (c:zaG) (a:Int) (b:Int):Option Bool:=
Zb (cond (a !=b) (Zb (zq6 (w64 (a+b)) 2) λx6=>
Ob (x6==0)) (Ob Oc)) λc4=>
Ob c4
def zcr (c:zaG) (a:Int) (b:Int):Option Bool:=
Zb (cond (a !=b) (cond (a==0) (Ob Od) (Ob (b==0))) (Ob Oc)) λc4=>
Ob c4
def zbJ (c:zaG) (a:Int) (b:Int):Option Bool:=
Zb (cond (a !=0) (cond (b==0) (Ob Od) (cond (a==0) (Ob (b==c.1.2.2.2.1)) (Ob Oc))) (cond (a==0) (Ob (b==c.1.2.2.2.1)) (Ob Oc))) λc5=>
Ob c5
def zbK (c:zaG) (a:Int) (b:Int):Option Bool:=
Zb (cond (a==0) (cond (b==c.1.2.2.2.1) (Ob Od) (cond (a==c.1.2.2.2.1) (Ob (b==0)) (Ob Oc))) (cond (a==c.1.2.2.2.1) (Ob (b==0)) (Ob Oc))) λc5=>
Ob c5
def zby (b:zaG) (a:Int) (c:Int):Option Bool:=
Zb (idx (List.replicate 1 (λ_=>Oe)++([(λx=>zfX x.1 x.2.1 x.2.2),(λx=>zff x.1 x.2.1 x.2.2),(λx=>zb3 x.1 x.2.1 x.2.2),(λx=>zcr x.1 x.2.1 x.2.2),(λx=>zbJ x.1 x.2.1 x.2.2),(λx=>zbK x.1 x.2.1 x.2.2)]:List ((zaG×Int×Int)->Option Bool))) b.1.2.1) λx4=>
Zb (x4 (b,a,c)) λy5=>
Ob y5
def zdX (a:zL):Option Int:=
cond a.2.1 (Ob (w64 (w64 (2*a.1)+1))) (Ob (w64 (2*a.1)))
def zbr (a:Int):Option Bool:=
Ob (a !=a)
def zbc (a:Int) (b:Int):Option Bool:=
Zb (Zb (zbr a) λy6=>
cond y6 (Zb (zbr b) λy8=>
cond (!y8) (Ob Od) (Ob (decide (a<b)))) (Ob (decide (a<b)))) λc5=>
Ob c5
def z9   (a:List Int) (b:Int) (c:Int):Option (List Int):=
Zb (iter (σ:=(Int×List Int)) (τ:=List Int) (λsb=>
cond (decide (sb.1<c)) (Zb (iter (σ:=(Int×List Int)) (τ:=List Int) (λsa=>
cond (decide (sa.1>b)) (Zb (idx sa.2 sa.1) λxb=>
Zb (idx sa.2 (w64 (sa.1-1))) λxd=>
Zb (zbc xb xd) λya=>
cond ya (Zb (idx sa.2 (w64 (sa.1-1))) λxa=>
Zb (idx sa.2 sa.1) λxe=>
Zb (idx sa.2 sa.1) λxf=>
Zb (idx ((sa.2).set (Int.toNat sa.1) xa) (w64 (sa.1-1))) λxg=>
Ob (.inl (w64 (sa.1-1),((sa.2).set (Int.toNat sa.1) xa).set (Int.toNat (w64 (sa.1-1))) xe))) (Ob (.inr sa.2))) (Ob (.inr sa.2))) big (sb.1,sb.2)) λta=>
Ob (.inl (w64 (sb.1+1),ta))) (Ob (.inr sb.2))) big (w64 (b+1),a)) λtb=>
Ob tb
def zeX (a:Int):Option Int:=
cond (decide (a>=4294967296)) (Zb (zjC .u64 a 32) λx2=>
cond (decide (x2>=65536)) (Zb (zjC .u64 x2 16) λx4=>
cond (decide (x4>=256)) (Zb (zjC .u64 x4 8) λx6=>
Zb (idx zdQ (IntKind.u8.wrap x6)) λx7=>
Ob (w64 (w64 (w64 (32+16)+8)+w64 x7))) (Zb (idx zdQ (IntKind.u8.wrap x4)) λx8=>
Ob (w64 (w64 (32+16)+w64 x8)))) (cond (decide (x2>=256)) (Zb (zjC .u64 x2 8) λxb=>
Zb (idx zdQ (IntKind.u8.wrap xb)) λxd=>
Ob (w64 (w64 (32+8)+w64 xd))) (Zb (idx zdQ (IntKind.u8.wrap x2)) λxe=>
Ob (w64 (32+w64 xe))))) (cond (decide (a>=65536)) (Zb (zjC .u64 a 16) λxa=>
cond (decide (xa>=256)) (Zb (zjC .u64 xa 8) λxf=>
Zb (idx zdQ (IntKind.u8.wrap xf)) λxg=>
Ob (w64 (w64 (w64 (0+16)+8)+w64 xg))) (Zb (idx zdQ (IntKind.u8.wrap xa)) λxh=>
Ob (w64 (w64 (0+16)+w64 xh)))) (cond (decide (a>=256)) (Zb (zjC .u64 a 8) λxi=>
Zb (idx zdQ (IntKind.u8.wrap xi)) λxj=>
Ob (w64 (w64 (0+8)+w64 xj))) (Zb (idx zdQ (IntKind.u8.wrap a)) λxk=>
Ob (w64 (0+w64 xk)))))
def zeB (a:Int):Option Int:=
Zb (zeX a) λy2=>
Ob y2
def zbs   (b:List Int) (c:Int) (d:Int) (a:Int):Option (List Int):=
Zb (iter (σ:=(Int×Int×Int×Bool×Bool×List Int)) (τ:=List Int) (λsa=>
cond (decide (w64 (sa.2.1-sa.1)<=12)) (Zb (z9 sa.2.2.2.2.2 sa.1 sa.2.1) λya=>
Ob (.inr ya)) (cond (sa.2.2.1==0) Oe (cond (!sa.2.2.2.1) Oe Oe))) big (c,d,a,Od,Od,b)) λta=>
Ob ta
def zb4   (a:List Int):Option (List Int):=
Zb (zeB (IntKind.u64.wrap (zp a))) λy1=>
Zb (zbs a 0 (zp a) y1) λy2=>
Ob y2
def zfg (a:Int):Option zL:=
Zb (zdi .i64 a 2) λx2=>
Zb (zq6 a 2) λx3=>
Ob ((x2,(x3==1),()):zL)
def zbL {σ τ:Type} (step:σ->zL->Option (σ⊕τ)) (s_:σ) (a:zbp) (b:zL):Option (σ⊕τ):=
Zb (zeA b) λy5=>
Zb (zcQ a.1 y5) λy6=>
Zb (idx a.1.1 y6) λx7=>
Zb (iter (σ:=(List Int×Int)) (τ:=List Int) (λsa=>
cond (decide (sa.2<zp x7.2.2.1)) (Zb (idx x7.2.2.1 sa.2) λxa=>
Zb (zeA b) λyc=>
Zb (zby ((x7,()):zaG) ((mget a.2.2.1 yc).getD 0) sa.2) λyd=>
cond yd (Zb (zdX ((xa.1,xa.2.1,()):zL)) λye=>
Zb (zde 8 sa.1 ([ye])) λxb=>
Ob (.inl (xb,w64 (sa.2+1)))) (Ob (.inl (sa.1,w64 (sa.2+1))))) (Ob (.inr sa.1))) big ([],0)) λta=>
Zb (zb4 ta) λyb=>
Zb (iter (σ:=(Int×(σ⊕τ))) (τ:=(σ⊕τ)⊕(σ⊕τ)) (λsb=>
cond (decide (sb.1<zp yb)) (Zb (idx yb sb.1) λxd=>
Zb (zfg xd) λyf=>
Zb (goL sb.2) λsc=>
Zb (step sc yf) λya=>
cond (!(ya).isLeft) (Ob (.inr (.inr ya))) (Ob (.inl (w64 (sb.1+1),ya)))) (Ob (.inr (.inl sb.2)))) big (0,(.inl s_))) λtb=>
alt (λba=>Ob ba) (λbb=>Ob bb) tb
def zcU (b:zbp) (a:zL):Option (zbp×zL):=
Ob (b,a)
def za2 (b:zbp) (c:zL) (a:zL):Option Bool:=
Zb (zcU b c) λy2=>
Zb (zbL (σ:=Bool) (τ:=Bool) (λs8 x3=>
cond (x3==a) (Ob (.inr Od)) (Ob (.inl s8))) Oc y2.1 y2.2) λta=>
alt (λbb=>Ob Oc) (λba=>Ob ba) ta
def zbQ (b:zbp) (a:List zL):Option Bool:=
Zb (iter (σ:=Int) (τ:=Unit⊕Bool) (λsa=>
cond (decide (sa<zp a)) (Zb (idx a sa) λxa=>
Zb (zbP b xa) λya=>
cond (!ya) (Ob (.inr (.inr Oc))) (cond (decide (sa>0)) (Zb (idx a (w64 (sa-1))) λxb=>
Zb (za2 b xb xa) λyb=>
cond (!yb) (Ob (.inr (.inr Oc))) (Ob (.inl (w64 (sa+1))))) (Ob (.inl (w64 (sa+1)))))) (Ob (.inr (.inl ())))) big 0) λta=>
alt (λbb=>Zb (zV (zp a) 1 2000) λyc=>
Ob yc) (λba=>Ob ba) ta
def zaN (b:zbp) (a:List zL):Option Int:=
Zb (iter (σ:=(Int×Int)) (τ:=Int) (λs6=>
cond (decide (s6.2<zp a)) (Zb (idx a s6.2) λx9=>
Zb (idx b.2.1 x9.1) λxa=>
Ob (.inl (w64 (s6.1+xa),w64 (s6.2+1)))) (Ob (.inr s6.1))) big (0,0)) λta=>
Ob ta
def zco (b:Plan) (a:List zL):Option (Int×Int):=
Zb (zdw b) λy1=>
Zb (cond (!y1.2) (Ob Od) (Zb y1.1 λp7=>
Zb (zbQ p7 a) λy8=>
Ob (!y8))) λc5=>
cond c5 (Ob (0,2)) (Zb y1.1 λpa=>
Zb (zaN pa a) λya=>
Ob (ya,0))
def zW (c:Int) (b:Int) (a:Int):Option Bool:=
Zb (cond (decide (c>=b)) (Ob (decide (c<=a))) (Ob Oc)) λc4=>
Ob c4
def zbG (a:List Int) (b:(Int->Option Bool)):Option Int:=
Zb (iter (σ:=Int) (τ:=Unit⊕Int) (λs5=>
cond (decide (s5<zp a)) (Zb (idx a s5) λx8=>
Zb (b x8) λy9=>
cond y9 (Ob (.inr (.inr s5))) (Ob (.inl (w64 (s5+1))))) (Ob (.inr (.inl ())))) big 0) λta=>
alt (λbb=>Ob (-1)) (λba=>Ob ba) ta
def zbf (a:List Int) (b:(Int->Option Bool)):Option Bool:=
Zb (zbG a b) λy1=>
Ob (decide (y1>=0))
def zfs (a:Int):Option Bool:=
Zb (zW a 1 1000) λy1=>
Ob (!y1)
def zdY (a:Train):Option Int:=
Zb (Zb (zW a.1 1000 80000) λya=>
cond (!ya) (Ob Od) (Zb (zW a.2.1 1 60000) λyb=>
cond (!yb) (Ob Od) (Zb (zW a.2.2.1 1 25000) λyc=>
cond (!yc) (Ob Od) (Zb (zW a.2.2.2.1 1 200000) λyd=>
cond (!yd) (Ob Od) (Zb (zW a.2.2.2.2.1 1 200000) λye=>
cond (!ye) (Ob Od) (Zb (zW a.2.2.2.2.2.1 1 2000000) λyf=>
cond (!yf) (Ob Od) (Zb (zW a.2.2.2.2.2.2.1 0 100000) λyg=>
cond (!yg) (Ob Od) (Zb (zW a.2.2.2.2.2.2.2.1 0 10000) λyh=>
cond (!yh) (Ob Od) (Zb (zW a.2.2.2.2.2.2.2.2.1 0 100) λyi=>
Ob (!yi)))))))))) λca=>
cond ca (Ob 2) (Zb (Zb (zW (zp a.2.2.2.2.2.2.2.2.2.1) 1 8) λyj=>
cond (!yj) (Ob Od) (Zb (zbf a.2.2.2.2.2.2.2.2.2.1 (λx=>zfs x)) λyk=>
Ob yk)) λcc=>
cond cc (Ob 2) (Ob 0))
def zdx (b:Train) (a:Int):Option (Option zau×Bool):=
Zb (Zb (zdY b) λy5=>
cond (y5 !=0) (Ob Od) (Zb (zW a 0 (w64 (zp b.2.2.2.2.2.2.2.2.2.1-1))) λy7=>
Ob (!y7))) λc4=>
cond c4 (Ob ((Oe:Option zau),Oc)) (Ob (Ob ((b,a,()):zau),Od))
def zdZ (d:Plan) (b:List zL) (e:Train) (c:Int) (a:List Int):Option (Option zaF×Bool):=
Zb (zdx e c) λy1=>
Zb (zco d b) λy2=>
Zb (cond (!y1.2) (Ob Od) (cond (y2.2 !=0) (Ob Od) (Zb (zW (zp a) 2 100) λyb=>
cond (!yb) (Ob Od) (Zb (idx a 0) λxd=>
cond (decide (xd<e.2.1)) (Ob Od) (Zb (idx a (w64 (zp a-1))) λxe=>
Ob (decide (xe>y2.1))))))) λca=>
cond ca (Ob ((Oe:Option zaF),Oc)) (Zb (iter (σ:=Int) (τ:=Unit⊕(Option zaF×Bool)) (λsb=>
cond (decide (sb<zp a)) (Zb (idx a sb) λxf=>
Zb (idx a (w64 (sb-1))) λxg=>
cond (decide (xf<=xg)) (Ob (.inr (.inr ((Oe:Option zaF),Oc)))) (Ob (.inl (w64 (sb+1))))) (Ob (.inr (.inl ())))) big 1) λta=>
alt (λbd=>Zb y1.1 λpa=>
Zb (iter (σ:=(Int×Int×List Int×List Int×List Int)) (τ:=(List Int×List Int×List Int)⊕(Option zaF×Bool×List Int×List Int×List Int)) (λsa=>
cond (decide (sa.2.1<zp b)) (Zb (idx b sa.2.1) λxb=>
Zb (zbb d xb.1) λya=>
cond (ya.2 !=0) (Ob (.inr (.inr ((Oe:Option zaF),Oc,sa.2.2.2.2,sa.2.2.2.1,sa.2.2.1)))) (Zb (idx d.2.1 xb.1) λxa=>
cond xb.2.1 (Zb (zde 8 sa.2.2.2.2 ([w64 (sa.1+ya.1)])) λxh=>
Zb (zde 8 sa.2.2.2.1 ([xa.2.2.2.1])) λxi=>
Zb (zde 8 sa.2.2.1 ([w64 (0-xa.2.2.2.2.1)])) λxj=>
Ob (.inl (w64 (sa.1+ya.1),w64 (sa.2.1+1),xj,xi,xh))) (Zb (zde 8 sa.2.2.2.2 ([w64 (sa.1+ya.1)])) λxk=>
Zb (zde 8 sa.2.2.2.1 ([xa.2.2.2.1])) λxl=>
Zb (zde 8 sa.2.2.1 ([xa.2.2.2.2.1])) λxm=>
Ob (.inl (w64 (sa.1+ya.1),w64 (sa.2.1+1),xm,xl,xk))))) (Ob (.inr (.inl (sa.2.2.2.2,sa.2.2.2.1,sa.2.2.1))))) big (0,0,[],[],[])) λtb=>
alt (λba=>Ob (Ob (pa,b,ba.1,ba.2.1,ba.2.2,a,()),Od)) (λbb=>Ob (bb.1,bb.2.1)) tb) (λbc=>Ob (bc.1,bc.2)) ta)
def z6 (b:zau) (a:zd):Option Int:=
Zb (zdi .i64 a.2.1 (w64 (10*b.1.1))) λx2=>
Ob x2
def zdl (a:Int):Option Bool:=
Ob (a !=a)
def zO (b:List Int) (a:Int):Option (Int×Bool):=
Zb (iter (σ:=(Int×Int)) (τ:=Int) (λs6=>
cond (decide (s6.1<s6.2)) (Zb (zjC .u64 (IntKind.u64.wrap (w64 (s6.1+s6.2))) 1) λx9=>
Zb (idx b (w64 x9)) λxa=>
Zb (zbc xa a) λya=>
cond ya (Ob (.inl (w64 (w64 x9+1),s6.2))) (Ob (.inl (s6.1,w64 x9)))) (Ob (.inr s6.1))) big (0,zp b)) λta=>
Zb (cond (decide (ta<zp b)) (Zb (idx b ta) λxb=>
cond (xb==a) (Ob (ta,Od)) (Zb (idx b ta) λxd=>
Zb (zdl xd) λyb=>
cond yb (Zb (zdl a) λyc=>
Ob (ta,yc)) (Ob (ta,Oc)))) (Ob (ta,Oc))) λca=>
Ob (ca.1,ca.2)
def zaT (a:zaF) (b:zd):Option Int:=
Zb (z6 a.1 b) λy2=>
Zb (zO a.2.2.1 (w64 (y2+1))) λy3=>
Zb (idx a.2.2.2.2.1 (min y3.1 (w64 (zp a.2.2.2.2.1-1)))) λx5=>
Ob x5
def zbt (a:zau):Option Int:=
Zb (idx a.1.2.2.2.2.2.2.2.2.2.1 a.2.1) λx3=>
Zb (zdi .i64 (w64 (w64 (x3*a.1.1)*981)) 100000) λx4=>
Ob x4
def zbg (b:zau) (d:Int) (a:Int) (c:Int):Option Int:=
cond (decide (a<=0)) (Ob 0) (Zb (zdi .i64 (w64 (b.1.2.2.2.1*a)) 4) λx4=>
Zb (zbt b) λy5=>
cond (decide (d>0)) (Zb (zdi .i64 (w64 (1000*b.1.2.2.2.2.2.1)) d) λx7=>
Ob (min (min x4 y5) x7)) (Ob (min x4 y5)))
def za8 (c:zau) (d:Int) (a:Int) (b:Int):Option Int:=
cond (decide (a>=0)) (Ob 0) (Zb (zdi .i64 (w64 (c.1.2.2.2.2.1*w64 (0-a))) 4) λx4=>
Zb (zbt c) λy5=>
Ob (min x4 y5))
def zbR (c:zau) (d:Int) (a:Int) (b:Int):Option Int:=
Zb (zdi .i64 (w64 (c.1.2.2.2.2.2.2.2.1*d)) 1000) λx2=>
Ob (w64 (c.1.2.2.2.2.2.2.1+x2))
def zbS (c:zau) (d:Int) (b:Int) (a:Int):Option Int:=
Zb (zdi .i64 (w64 (w64 (c.1.1*a)*981)) 100000) λx1=>
Ob x1
def zcG (c:zau) (d:Int) (a:Int) (b:Int):Option (List Int):=
Zb (iter (σ:=(Int×List Int)) (τ:=List Int) (λsa=>
cond (decide (sa.1<4)) (Zb (idx ([(λx=>zbg c x.1 x.2.1 x.2.2),(λx=>za8 c x.1 x.2.1 x.2.2),(λx=>zbR c x.1 x.2.1 x.2.2),(λx=>zbS c x.1 x.2.1 x.2.2)]:List ((Int×Int×Int)->Option Int)) sa.1) λxa=>
Zb (xa (d,a,b)) λya=>
Zb (idx sa.2 sa.1) λxb=>
Ob (.inl (w64 (sa.1+1),(sa.2).set (Int.toNat sa.1) ya))) (Ob (.inr sa.2))) big (0,List.replicate 4 (0:Int))) λta=>
Ob ta
def zbz (b:zau) (a:zd):Option Int:=
Zb (zdi .i64 a.1 b.1.1) λx2=>
Ob x2
def zaI (b:zau) (a:zd) (c:Int) (d:Int):Option (zbm×Bool):=
Zb (zbz b a) λy2=>
Zb (zcG b y2 c d) λy3=>
Zb (idx y3 0) λx5=>
Zb (idx y3 1) λx6=>
Zb (idx y3 2) λx7=>
Zb (idx y3 3) λx8=>
Zb (cond (decide (w64 (a.1+w64 (100*w64 (w64 (w64 (x5-x6)-x7)-x8)))<0)) (Ob Od) (cond (a.1==0) (Ob (decide (w64 (w64 (w64 (x5-x6)-x7)-x8)<=0))) (Ob Oc))) λca=>
cond ca (Zb (idx y3 0) λxa=>
Zb (idx y3 1) λxb=>
Zb (idx y3 2) λxd=>
Zb (idx y3 3) λxe=>
Zb (idx y3 0) λxf=>
Zb (zdi .i64 (w64 (w64 (w64 (xf*0)+w64 (1000*b.1.1))-1)) (w64 (1000*b.1.1))) λxg=>
Zb (idx y3 1) λxh=>
Zb (zdi .i64 (w64 (w64 (xh*0)*b.1.2.2.2.2.2.2.2.2.1)) (w64 (100000*b.1.1))) λxi=>
Ob (((0,w64 (a.2.1+0),()),(w64 (w64 (200*xa)*0),w64 (w64 (200*xb)*0),w64 (w64 (200*xd)*0),w64 (w64 (200*xe)*0),0,w64 (a.1*a.1),()),xg,xi,()),decide (0<=w64 (25000*b.1.1)))) (Zb (idx y3 0) λxj=>
Zb (idx y3 1) λxk=>
Zb (idx y3 2) λxl=>
Zb (idx y3 3) λxm=>
Zb (idx y3 0) λxn=>
Zb (zdi .i64 (w64 (w64 (w64 (xn*w64 (a.1+w64 (100*w64 (w64 (w64 (x5-x6)-x7)-x8))))+w64 (1000*b.1.1))-1)) (w64 (1000*b.1.1))) λxo=>
Zb (idx y3 1) λxp=>
Zb (zdi .i64 (w64 (w64 (xp*w64 (a.1+w64 (100*w64 (w64 (w64 (x5-x6)-x7)-x8))))*b.1.2.2.2.2.2.2.2.2.1)) (w64 (100000*b.1.1))) λxq=>
Ob (((w64 (a.1+w64 (100*w64 (w64 (w64 (x5-x6)-x7)-x8))),w64 (a.2.1+w64 (a.1+w64 (100*w64 (w64 (w64 (x5-x6)-x7)-x8)))),()),(w64 (w64 (200*xj)*w64 (a.1+w64 (100*w64 (w64 (w64 (x5-x6)-x7)-x8)))),w64 (w64 (200*xk)*w64 (a.1+w64 (100*w64 (w64 (w64 (x5-x6)-x7)-x8)))),w64 (w64 (200*xl)*w64 (a.1+w64 (100*w64 (w64 (w64 (x5-x6)-x7)-x8)))),w64 (w64 (200*xm)*w64 (a.1+w64 (100*w64 (w64 (w64 (x5-x6)-x7)-x8)))),w64 (w64 (10000*w64 (w64 (w64 (x5-x6)-x7)-x8))*w64 (w64 (w64 (x5-x6)-x7)-x8)),0,()),xo,xq,()),decide (w64 (a.1+w64 (100*w64 (w64 (w64 (x5-x6)-x7)-x8)))<=w64 (25000*b.1.1))))
def zcH (a:zaF) (b:zd):Option Int:=
Zb (z6 a.1 b) λy2=>
Zb (zO a.2.2.1 (w64 (w64 (y2-a.1.1.2.1)+1))) λy3=>
Zb (iter (σ:=(Int×Int)) (τ:=Int) (λs8=>
cond (decide (s8.2<zp a.2.2.1)) (Zb (idx a.2.2.2.1 s8.2) λxa=>
Zb (idx a.2.2.1 s8.2) λxb=>
cond (decide (xb>=y2)) (Ob (.inr (min s8.1 xa))) (Ob (.inl (min s8.1 xa,w64 (s8.2+1))))) (Ob (.inr s8.1))) big (a.1.1.2.2.1,y3.1)) λta=>
Ob ta
def zbT (b:zaF) (c:zd) (a:Int):Option Bool:=
Zb (Zb (z6 b.1 c) λya=>
cond (decide (ya<=a)) (Zb (zbz b.1 c) λyb=>
Zb (zcH b c) λyc=>
Ob (decide (yb<=yc))) (Ob Oc)) λc9=>
Ob c9
def zbd {σ τ:Type} (step:σ->zd->Option (σ⊕τ)) (s_:σ) (a:zd) (b:zau) (c:(zd->Option Int)):Option ((σ⊕τ)×zd):=
Zb (iter (σ:=(Int×(σ⊕τ)×Int×Int)) (τ:=((σ⊕τ)×Int×Int)⊕((σ⊕τ)×Int×Int)) (λsa=>
cond (decide (sa.1<36000)) (cond (sa.2.2.1==0) (Ob (.inr (.inr (sa.2.1,sa.2.2.1,sa.2.2.2)))) (Zb (c (sa.2.2.1,sa.2.2.2,())) λyc=>
Zb (zaI b (sa.2.2.1,sa.2.2.2,()) (-4) yc) λya=>
cond (!ya.2) (Ob (.inr (.inr (sa.2.1,sa.2.2.1,sa.2.2.2)))) (Zb (goL sa.2.1) λsb=>
Zb (step sb ya.1.1) λyb=>
cond (!(yb).isLeft) (Ob (.inr (.inr (yb,ya.1.1.1,ya.1.1.2.1)))) (Ob (.inl (w64 (sa.1+1),yb,ya.1.1.1,ya.1.1.2.1)))))) (Ob (.inr (.inl (sa.2.1,sa.2.2.1,sa.2.2.2))))) big (0,(.inl s_),a.1,a.2.1)) λta=>
alt (λba=>Ob (ba.1,(ba.2.1,ba.2.2,()))) (λbb=>Ob (bb.1,(bb.2.1,bb.2.2,()))) ta
def zcf (c:zau) (b:zd) (a:(zd->Option Int)):Option (zd×zau×(zd->Option Int)):=
Ob (b,c,a)
def zcp (b:zaF) (c:zd) (a:Int):Option Bool:=
Zb (zbT b c a) λy2=>
cond (!y2) (Ob Oc) (Zb (zcf b.1 c (λx=>zaT b x)) λy7=>
Zb (zbd (σ:=(Int×Int)) (τ:=(Int×Int)) (λsa x9=>
Zb (zbT b x9 a) λya=>
cond (!ya) (Ob (.inr (sa.1,sa.2))) (Ob (.inl (x9.1,x9.2.1)))) (c.1,c.2.1) y7.1 y7.2.1 y7.2.2) λta=>
alt (λba=>Ob (ba.1==0)) (λbb=>Ob Oc) ta.1)
def zaY (b:zaF) (c:zd) (a:Int):Option (zbm×Bool):=
Zb (zaT b c) λy2=>
Zb (iter (σ:=(Bool×Int×Int×Int×Int×Int×Int×Int×Int×Int×Int×Int)) (τ:=(Bool×Int×Int×Int×Int×Int×Int×Int×Int×Int×Int)) (λsa=>
cond (decide (sa.2.1<9)) (Zb (zaI b.1 c (w64 (4-sa.2.1)) y2) λya=>
cond ya.2 (Zb (zcp b ya.1.1 a) λyb=>
cond yb (Ob (.inr (Od,ya.1.1.1,ya.1.1.2.1,ya.1.2.1.1,ya.1.2.1.2.1,ya.1.2.1.2.2.1,ya.1.2.1.2.2.2.1,ya.1.2.1.2.2.2.2.1,ya.1.2.1.2.2.2.2.2.1,ya.1.2.2.1,ya.1.2.2.2.1))) (Ob (.inl (sa.1,w64 (sa.2.1+1),sa.2.2.1,sa.2.2.2.1,sa.2.2.2.2.1,sa.2.2.2.2.2.1,sa.2.2.2.2.2.2.1,sa.2.2.2.2.2.2.2.1,sa.2.2.2.2.2.2.2.2.1,sa.2.2.2.2.2.2.2.2.2.1,sa.2.2.2.2.2.2.2.2.2.2.1,sa.2.2.2.2.2.2.2.2.2.2.2)))) (Ob (.inl (sa.1,w64 (sa.2.1+1),sa.2.2.1,sa.2.2.2.1,sa.2.2.2.2.1,sa.2.2.2.2.2.1,sa.2.2.2.2.2.2.1,sa.2.2.2.2.2.2.2.1,sa.2.2.2.2.2.2.2.2.1,sa.2.2.2.2.2.2.2.2.2.1,sa.2.2.2.2.2.2.2.2.2.2.1,sa.2.2.2.2.2.2.2.2.2.2.2)))) (Ob (.inr (sa.1,sa.2.2.1,sa.2.2.2.1,sa.2.2.2.2.1,sa.2.2.2.2.2.1,sa.2.2.2.2.2.2.1,sa.2.2.2.2.2.2.2.1,sa.2.2.2.2.2.2.2.2.1,sa.2.2.2.2.2.2.2.2.2.1,sa.2.2.2.2.2.2.2.2.2.2.1,sa.2.2.2.2.2.2.2.2.2.2.2)))) big (Oc,0,0,0,0,0,0,0,0,0,0,0)) λta=>
Ob (((ta.2.1,ta.2.2.1,()),(ta.2.2.2.1,ta.2.2.2.2.1,ta.2.2.2.2.2.1,ta.2.2.2.2.2.2.1,ta.2.2.2.2.2.2.2.1,ta.2.2.2.2.2.2.2.2.1,()),ta.2.2.2.2.2.2.2.2.2.1,ta.2.2.2.2.2.2.2.2.2.2,()),ta.1)
def zda (a:List zac):Option zac:=
Zb (iter (σ:=(Int×Int×Int×Int×Int×Int×Int)) (τ:=(Int×Int×Int×Int×Int×Int)) (λs9=>
cond (decide (s9.1<zp a)) (Zb (idx a s9.1) λxa=>
Ob (.inl (w64 (s9.1+1),w64 (s9.2.1+xa.1),w64 (s9.2.2.1+xa.2.1),w64 (s9.2.2.2.1+xa.2.2.1),w64 (s9.2.2.2.2.1+xa.2.2.2.1),w64 (s9.2.2.2.2.2.1+xa.2.2.2.2.1),w64 (s9.2.2.2.2.2.2+xa.2.2.2.2.2.1)))) (Ob (.inr (s9.2.1,s9.2.2.1,s9.2.2.2.1,s9.2.2.2.2.1,s9.2.2.2.2.2.1,s9.2.2.2.2.2.2)))) big (0,0,0,0,0,0,0)) λta=>
Ob (ta.1,ta.2.1,ta.2.2.1,ta.2.2.2.1,ta.2.2.2.2.1,ta.2.2.2.2.2,())
def zbD (b:zaF) (c:zd) (a:Int):Option (Leg×zd×Bool):=
Zb (iter (σ:=(Int×Int×Int×Int×Int×Int×Int×Int×Int×Int×Int×Int×Int×Int×Int×Int×Int×Int×Int×Int×Int×Int×Int×Int×Int)) (τ:=(Bool×Int×Int×Int×Int×Int×Int×Int×Int×Int×Int×Int×Int×Int×Int×Int×Int×Int×Int×Int×Int×Int×Int×Int×Int)) (λsa=>
Zb (z6 b.1 (sa.2.2.2.2.2.2.2.2.2.2.2.2.2.2.1,sa.2.2.2.2.2.2.2.2.2.2.2.2.2.2.2.1,())) λye=>
cond (sa.2.2.2.2.2.2.2.2.2.2.2.2.2.2.1==0) (Zb (zW (w64 (a-ye)) 0 1000) λyf=>
cond yf (Ob (.inr (Od,ye,sa.2.2.2.2.2.2.2.2.2.2.2.2.2.2.1,sa.2.2.2.2.2.2.2.2.2.2.2.2.2.2.2.1,sa.2.1,ye,sa.2.2.2.1,sa.2.2.2.2.1,sa.2.2.2.2.2.1,sa.2.2.2.2.2.2.1,sa.2.2.2.2.2.2.2.1,sa.2.2.2.2.2.2.2.2.1,sa.2.2.2.2.2.2.2.2.2.1,sa.2.2.2.2.2.2.2.2.2.2.1,sa.2.1,sa.2.2.2.1,sa.2.2.2.2.1,sa.2.2.2.2.2.1,sa.2.2.2.2.2.2.1,sa.2.2.2.2.2.2.2.1,sa.2.2.2.2.2.2.2.2.1,sa.2.2.2.2.2.2.2.2.2.1,sa.2.2.2.2.2.2.2.2.2.2.1,sa.2.2.2.2.2.2.2.2.2.2.2.2.2.2.1,sa.2.2.2.2.2.2.2.2.2.2.2.2.2.2.2.1))) (cond (sa.1==36000) (Ob (.inr (Oc,sa.2.2.1,sa.2.2.2.2.2.2.2.2.2.2.2.2.2.2.1,sa.2.2.2.2.2.2.2.2.2.2.2.2.2.2.2.1,sa.2.1,sa.2.2.1,sa.2.2.2.1,sa.2.2.2.2.1,sa.2.2.2.2.2.1,sa.2.2.2.2.2.2.1,sa.2.2.2.2.2.2.2.1,sa.2.2.2.2.2.2.2.2.1,sa.2.2.2.2.2.2.2.2.2.1,sa.2.2.2.2.2.2.2.2.2.2.1,sa.2.1,sa.2.2.2.1,sa.2.2.2.2.1,sa.2.2.2.2.2.1,sa.2.2.2.2.2.2.1,sa.2.2.2.2.2.2.2.1,sa.2.2.2.2.2.2.2.2.1,sa.2.2.2.2.2.2.2.2.2.1,sa.2.2.2.2.2.2.2.2.2.2.1,sa.2.2.2.2.2.2.2.2.2.2.2.2.2.2.1,sa.2.2.2.2.2.2.2.2.2.2.2.2.2.2.2.1))) (Zb (zaY b (sa.2.2.2.2.2.2.2.2.2.2.2.2.2.2.1,sa.2.2.2.2.2.2.2.2.2.2.2.2.2.2.2.1,()) a) λya=>
cond (!ya.2) (Ob (.inr (Oc,sa.2.2.1,sa.2.2.2.2.2.2.2.2.2.2.2.2.2.2.1,sa.2.2.2.2.2.2.2.2.2.2.2.2.2.2.2.1,sa.2.1,sa.2.2.1,sa.2.2.2.1,sa.2.2.2.2.1,sa.2.2.2.2.2.1,sa.2.2.2.2.2.2.1,sa.2.2.2.2.2.2.2.1,sa.2.2.2.2.2.2.2.2.1,sa.2.2.2.2.2.2.2.2.2.1,sa.2.2.2.2.2.2.2.2.2.2.1,sa.2.1,sa.2.2.2.1,sa.2.2.2.2.1,sa.2.2.2.2.2.1,sa.2.2.2.2.2.2.1,sa.2.2.2.2.2.2.2.1,sa.2.2.2.2.2.2.2.2.1,sa.2.2.2.2.2.2.2.2.2.1,sa.2.2.2.2.2.2.2.2.2.2.1,sa.2.2.2.2.2.2.2.2.2.2.2.2.2.2.1,sa.2.2.2.2.2.2.2.2.2.2.2.2.2.2.2.1))) (cond (decide (ya.1.1.2.1>10000000000000000)) (Ob (.inr (Oc,sa.2.2.1,sa.2.2.2.2.2.2.2.2.2.2.2.2.2.2.1,sa.2.2.2.2.2.2.2.2.2.2.2.2.2.2.2.1,sa.2.1,sa.2.2.1,sa.2.2.2.1,sa.2.2.2.2.1,sa.2.2.2.2.2.1,sa.2.2.2.2.2.2.1,sa.2.2.2.2.2.2.2.1,sa.2.2.2.2.2.2.2.2.1,sa.2.2.2.2.2.2.2.2.2.1,sa.2.2.2.2.2.2.2.2.2.2.1,sa.2.1,sa.2.2.2.1,sa.2.2.2.2.1,sa.2.2.2.2.2.1,sa.2.2.2.2.2.2.1,sa.2.2.2.2.2.2.2.1,sa.2.2.2.2.2.2.2.2.1,sa.2.2.2.2.2.2.2.2.2.1,sa.2.2.2.2.2.2.2.2.2.2.1,sa.2.2.2.2.2.2.2.2.2.2.2.2.2.2.1,sa.2.2.2.2.2.2.2.2.2.2.2.2.2.2.2.1))) (Zb (zda ([(sa.2.2.2.1,sa.2.2.2.2.1,sa.2.2.2.2.2.1,sa.2.2.2.2.2.2.1,sa.2.2.2.2.2.2.2.1,sa.2.2.2.2.2.2.2.2.1,()),ya.1.2.1])) λyc=>
Ob (.inl (w64 (sa.1+1),w64 (sa.2.1+100),sa.2.2.1,yc.1,yc.2.1,yc.2.2.1,yc.2.2.2.1,yc.2.2.2.2.1,yc.2.2.2.2.2.1,max sa.2.2.2.2.2.2.2.2.2.1 ya.1.2.2.1,max sa.2.2.2.2.2.2.2.2.2.2.1 ya.1.2.2.2.1,sa.2.2.2.2.2.2.2.2.2.2.2.1,sa.2.2.2.2.2.2.2.2.2.2.2.2.1,sa.2.2.2.2.2.2.2.2.2.2.2.2.2.1,ya.1.1.1,ya.1.1.2.1,sa.2.2.2.2.2.2.2.2.2.2.2.2.2.2.2.2.1,sa.2.2.2.2.2.2.2.2.2.2.2.2.2.2.2.2.2.1,sa.2.2.2.2.2.2.2.2.2.2.2.2.2.2.2.2.2.2.1,sa.2.2.2.2.2.2.2.2.2.2.2.2.2.2.2.2.2.2.2.1,sa.2.2.2.2.2.2.2.2.2.2.2.2.2.2.2.2.2.2.2.2.1,sa.2.2.2.2.2.2.2.2.2.2.2.2.2.2.2.2.2.2.2.2.2.1,sa.2.2.2.2.2.2.2.2.2.2.2.2.2.2.2.2.2.2.2.2.2.2.1,sa.2.2.2.2.2.2.2.2.2.2.2.2.2.2.2.2.2.2.2.2.2.2.2.1,sa.2.2.2.2.2.2.2.2.2.2.2.2.2.2.2.2.2.2.2.2.2.2.2.2))))))) (cond (sa.1==36000) (Ob (.inr (Oc,sa.2.2.1,sa.2.2.2.2.2.2.2.2.2.2.2.2.2.2.1,sa.2.2.2.2.2.2.2.2.2.2.2.2.2.2.2.1,sa.2.1,sa.2.2.1,sa.2.2.2.1,sa.2.2.2.2.1,sa.2.2.2.2.2.1,sa.2.2.2.2.2.2.1,sa.2.2.2.2.2.2.2.1,sa.2.2.2.2.2.2.2.2.1,sa.2.2.2.2.2.2.2.2.2.1,sa.2.2.2.2.2.2.2.2.2.2.1,sa.2.1,sa.2.2.2.1,sa.2.2.2.2.1,sa.2.2.2.2.2.1,sa.2.2.2.2.2.2.1,sa.2.2.2.2.2.2.2.1,sa.2.2.2.2.2.2.2.2.1,sa.2.2.2.2.2.2.2.2.2.1,sa.2.2.2.2.2.2.2.2.2.2.1,sa.2.2.2.2.2.2.2.2.2.2.2.2.2.2.1,sa.2.2.2.2.2.2.2.2.2.2.2.2.2.2.2.1))) (Zb (zaY b (sa.2.2.2.2.2.2.2.2.2.2.2.2.2.2.1,sa.2.2.2.2.2.2.2.2.2.2.2.2.2.2.2.1,()) a) λyb=>
cond (!yb.2) (Ob (.inr (Oc,sa.2.2.1,sa.2.2.2.2.2.2.2.2.2.2.2.2.2.2.1,sa.2.2.2.2.2.2.2.2.2.2.2.2.2.2.2.1,sa.2.1,sa.2.2.1,sa.2.2.2.1,sa.2.2.2.2.1,sa.2.2.2.2.2.1,sa.2.2.2.2.2.2.1,sa.2.2.2.2.2.2.2.1,sa.2.2.2.2.2.2.2.2.1,sa.2.2.2.2.2.2.2.2.2.1,sa.2.2.2.2.2.2.2.2.2.2.1,sa.2.1,sa.2.2.2.1,sa.2.2.2.2.1,sa.2.2.2.2.2.1,sa.2.2.2.2.2.2.1,sa.2.2.2.2.2.2.2.1,sa.2.2.2.2.2.2.2.2.1,sa.2.2.2.2.2.2.2.2.2.1,sa.2.2.2.2.2.2.2.2.2.2.1,sa.2.2.2.2.2.2.2.2.2.2.2.2.2.2.1,sa.2.2.2.2.2.2.2.2.2.2.2.2.2.2.2.1))) (cond (decide (yb.1.1.2.1>10000000000000000)) (Ob (.inr (Oc,sa.2.2.1,sa.2.2.2.2.2.2.2.2.2.2.2.2.2.2.1,sa.2.2.2.2.2.2.2.2.2.2.2.2.2.2.2.1,sa.2.1,sa.2.2.1,sa.2.2.2.1,sa.2.2.2.2.1,sa.2.2.2.2.2.1,sa.2.2.2.2.2.2.1,sa.2.2.2.2.2.2.2.1,sa.2.2.2.2.2.2.2.2.1,sa.2.2.2.2.2.2.2.2.2.1,sa.2.2.2.2.2.2.2.2.2.2.1,sa.2.1,sa.2.2.2.1,sa.2.2.2.2.1,sa.2.2.2.2.2.1,sa.2.2.2.2.2.2.1,sa.2.2.2.2.2.2.2.1,sa.2.2.2.2.2.2.2.2.1,sa.2.2.2.2.2.2.2.2.2.1,sa.2.2.2.2.2.2.2.2.2.2.1,sa.2.2.2.2.2.2.2.2.2.2.2.2.2.2.1,sa.2.2.2.2.2.2.2.2.2.2.2.2.2.2.2.1))) (Zb (zda ([(sa.2.2.2.1,sa.2.2.2.2.1,sa.2.2.2.2.2.1,sa.2.2.2.2.2.2.1,sa.2.2.2.2.2.2.2.1,sa.2.2.2.2.2.2.2.2.1,()),yb.1.2.1])) λyd=>
Ob (.inl (w64 (sa.1+1),w64 (sa.2.1+100),sa.2.2.1,yd.1,yd.2.1,yd.2.2.1,yd.2.2.2.1,yd.2.2.2.2.1,yd.2.2.2.2.2.1,max sa.2.2.2.2.2.2.2.2.2.1 yb.1.2.2.1,max sa.2.2.2.2.2.2.2.2.2.2.1 yb.1.2.2.2.1,sa.2.2.2.2.2.2.2.2.2.2.2.1,sa.2.2.2.2.2.2.2.2.2.2.2.2.1,sa.2.2.2.2.2.2.2.2.2.2.2.2.2.1,yb.1.1.1,yb.1.1.2.1,sa.2.2.2.2.2.2.2.2.2.2.2.2.2.2.2.2.1,sa.2.2.2.2.2.2.2.2.2.2.2.2.2.2.2.2.2.1,sa.2.2.2.2.2.2.2.2.2.2.2.2.2.2.2.2.2.2.1,sa.2.2.2.2.2.2.2.2.2.2.2.2.2.2.2.2.2.2.2.1,sa.2.2.2.2.2.2.2.2.2.2.2.2.2.2.2.2.2.2.2.2.1,sa.2.2.2.2.2.2.2.2.2.2.2.2.2.2.2.2.2.2.2.2.2.1,sa.2.2.2.2.2.2.2.2.2.2.2.2.2.2.2.2.2.2.2.2.2.2.1,sa.2.2.2.2.2.2.2.2.2.2.2.2.2.2.2.2.2.2.2.2.2.2.2.1,sa.2.2.2.2.2.2.2.2.2.2.2.2.2.2.2.2.2.2.2.2.2.2.2.2))))))) big (0,0,0,0,0,0,0,0,0,0,0,0,0,0,c.1,c.2.1,0,0,0,0,0,0,0,0,0)) λta=>
Ob ((ta.2.2.2.2.1,ta.2.2.2.2.2.1,(ta.2.2.2.2.2.2.1,ta.2.2.2.2.2.2.2.1,ta.2.2.2.2.2.2.2.2.1,ta.2.2.2.2.2.2.2.2.2.1,ta.2.2.2.2.2.2.2.2.2.2.1,ta.2.2.2.2.2.2.2.2.2.2.2.1,()),ta.2.2.2.2.2.2.2.2.2.2.2.2.1,ta.2.2.2.2.2.2.2.2.2.2.2.2.2.1,()),(ta.2.2.1,ta.2.2.2.1,()),ta.1)
def zch (e:Plan) (c:List zL) (d:Train) (b:Int) (a:List Int):Option (List Leg×Int):=
Zb (zdZ e c d b a) λy1=>
cond (!y1.2) (Ob ([],2)) (Zb (idx a 0) λx5=>
Zb (slO a 1 (zp a)) λx7=>
Zb (iter (σ:=(List Leg×Int×Int×Int)) (τ:=(List Leg×Int×Int)⊕(List Leg×Int×Int×Int)) (λsa=>
cond (decide (sa.2.1<zp x7)) (Zb (idx x7 sa.2.1) λxa=>
Zb y1.1 λpa=>
Zb (zbD pa (sa.2.2.1,sa.2.2.2,()) xa) λya=>
cond (!ya.2.2) (Ob (.inr (.inr ([],4,sa.2.2.1,sa.2.2.2)))) (cond (decide (sa.2.2.2>10000000000000000)) (Ob (.inr (.inr ([],4,sa.2.2.1,sa.2.2.2)))) (Zb (zde 80 sa.1 ([ya.1])) λxb=>
Ob (.inl (xb,w64 (sa.2.1+1),ya.2.1.1,ya.2.1.2.1))))) (Ob (.inr (.inl (sa.1,sa.2.2.1,sa.2.2.2))))) big ([],0,0,w64 (w64 (10*d.1)*x5))) λta=>
alt (λbb=>Ob (bb.1,0)) (λba=>Ob (ba.1,ba.2.1)) ta)
def zaZ (b:List Leg) (a:(Leg->Option Int)):Option (List Int):=
Zb (iter (σ:=(List Int×Int)) (τ:=List Int) (λs7=>
cond (decide (s7.2<zp b)) (Zb (idx b s7.2) λxa=>
Zb (a xa) λya=>
Zb (zde 8 s7.1 ([ya])) λxb=>
Ob (.inl (xb,w64 (s7.2+1)))) (Ob (.inr s7.1))) big ([],0)) λta=>
Ob ta
def ze3 (a:Leg):Option Int:=
Ob a.1
def zb5 (d:Plan) (c:List zL) (e:Train) (a:Int) (b:List Int):Option (List Int×Int):=
Zb (zch d c e a b) λy1=>
cond (y1.2 !=0) (Ob ([],y1.2)) (Zb (zaZ y1.1 (λx=>ze3 x)) λy4=>
Ob (y4,0))
def zbu (b:Plan) (c:Line) (a:Course):Option (List Int×List Int×Bool):=
Zb (zco b a.1) λy1=>
Zb (cond (y1.2 !=0) (Ob Od) (Zb (z5 (zp a.2.1) 2 60) λyb=>
cond (!yb) (Ob Od) (cond ((zp a.2.2.1)!=zp a.2.1) (Ob Od) (Zb (idx a.2.2.1 0) λxd=>
cond (xd !=0) (Ob Od) (Zb (idx a.2.2.1 (w64 (zp a.2.1-1))) λxe=>
Ob (xe !=0)))))) λc9=>
cond c9 (Ob ([],[],Oc)) (Zb (iter (σ:=Int) (τ:=Unit⊕(List Int×List Int×Bool)) (λsb=>
cond (decide (sb<zp a.2.1)) (Zb (idx a.2.1 sb) λxa=>
Zb (z5 xa 1 y1.1) λyc=>
cond (!yc) (Ob (.inr (.inr ([],[],Oc)))) (cond (decide (sb>0)) (Zb (idx a.2.1 (w64 (sb-1))) λxf=>
cond (decide (xa<=xf)) (Ob (.inr (.inr ([],[],Oc)))) (Zb (idx a.2.2.1 sb) λxg=>
Zb (z5 xg 0 600) λyd=>
cond (!yd) (Ob (.inr (.inr ([],[],Oc)))) (Ob (.inl (w64 (sb+1)))))) (Zb (idx a.2.2.1 sb) λxh=>
Zb (z5 xh 0 600) λye=>
cond (!ye) (Ob (.inr (.inr ([],[],Oc)))) (Ob (.inl (w64 (sb+1))))))) (Ob (.inr (.inl ())))) big 0) λtb=>
alt (λbb=>Zb (zb5 b a.1 c.2.2.1 c.2.2.2.1 a.2.1) λya=>
Zb (cond (ya.2 !=0) (Ob Od) (Ob ((zp ya.1)!=w64 (zp a.2.1-1)))) λca=>
cond ca (Ob ([],[],Oc)) (Zb (mkO 8 (zp a.2.1) (0:Int)) λxi=>
Zb (mkO 8 (zp a.2.1) (0:Int)) λxj=>
Zb (iter (σ:=(Int×List Int×List Int)) (τ:=(List Int×List Int)) (λsa=>
cond (decide (sa.1<zp ya.1)) (Zb (idx ya.1 sa.1) λxk=>
Zb (zdi .i64 (w64 (xk+999)) 1000) λxb=>
Zb (idx sa.2.2 (w64 (sa.1+1))) λxp=>
Zb (idx sa.2.1 sa.1) λxl=>
Zb (idx ((sa.2.2).set (Int.toNat (w64 (sa.1+1))) (max 1 xb)) (w64 (sa.1+1))) λxm=>
Zb (idx a.2.2.1 (w64 (sa.1+1))) λxn=>
Zb (idx sa.2.1 (w64 (sa.1+1))) λxq=>
Ob (.inl (w64 (sa.1+1),(sa.2.1).set (Int.toNat (w64 (sa.1+1))) (w64 (w64 (xl+xm)+xn)),(sa.2.2).set (Int.toNat (w64 (sa.1+1))) (max 1 xb)))) (Ob (.inr (sa.2.1,sa.2.2)))) big (0,xj,xi)) λta=>
Zb (idx ta.1 (w64 (zp a.2.1-1))) λxo=>
Ob (ta.2,ta.1,decide (xo<=50000)))) (λba=>Ob (ba.1,ba.2.1,ba.2.2)) tb)
def zcR (b:Plan) (a:Line):Option (Option zz×Bool):=
Zb (Zb (zdL b) λy5=>
cond (y5 !=0) (Ob Od) (Zb (z5 a.2.2.2.2.1 0 3600) λy7=>
Ob (!y7))) λc4=>
cond c4 (Ob ((Oe:Option zz),Oc)) (Zb (zcn a) λyb=>
Zb (iter (σ:=(Int×List Int×List Int×List Int×List Int)) (τ:=(List Int×List Int×List Int×List Int)⊕(Option zz×Bool×List Int×List Int×List Int×List Int)) (λsa=>
cond (decide (sa.1<2)) (Zb (idx yb sa.1) λxa=>
Zb (zbu b a xa) λya=>
Zb (idx [(),()] sa.1) λxb=>
Zb (idx [(),()] sa.1) λxd=>
cond (!ya.2.2) (Ob (.inr (.inr ((Oe:Option zz),Oc,cond (sa.1==0) ya.1 sa.2.1,cond (sa.1==1) ya.1 sa.2.2.1,cond (sa.1==0) ya.2.1 sa.2.2.2.1,cond (sa.1==1) ya.2.1 sa.2.2.2.2)))) (Ob (.inl (w64 (sa.1+1),cond (sa.1==0) ya.1 sa.2.1,cond (sa.1==1) ya.1 sa.2.2.1,cond (sa.1==0) ya.2.1 sa.2.2.2.1,cond (sa.1==1) ya.2.1 sa.2.2.2.2)))) (Ob (.inr (.inl (sa.2.1,sa.2.2.1,sa.2.2.2.1,sa.2.2.2.2))))) big (0,[],[],[],[])) λta=>
alt (λba=>Ob (Ob (((a.1.1,a.1.2.1,a.1.2.2.1,()),(a.2.1.1,a.2.1.2.1,a.2.1.2.2.1,()),(a.2.2.1.1,a.2.2.1.2.1,a.2.2.1.2.2.1,a.2.2.1.2.2.2.1,a.2.2.1.2.2.2.2.1,a.2.2.1.2.2.2.2.2.1,a.2.2.1.2.2.2.2.2.2.1,a.2.2.1.2.2.2.2.2.2.2.1,a.2.2.1.2.2.2.2.2.2.2.2.1,a.2.2.1.2.2.2.2.2.2.2.2.2.1,()),a.2.2.2.1,a.2.2.2.2.1,()),[ba.1,ba.2.1],[ba.2.2.1,ba.2.2.2],()),Od)) (λbb=>Ob (bb.1,bb.2.1)) ta)
def zgi (a:Bool):Option Int:=
cond a (Ob 1) (Ob 0)
def zaa (b:Plan) (c:Line) (a:Bool):Option (List Int×Int):=
Zb (zcR b c) λy1=>
cond (!y1.2) (Ob ([],2)) (Zb (zgi a) λy6=>
Zb y1.1 λp7=>
Zb (idx p7.2.2.1 y6) λx8=>
Ob (x8,0))
def zd0 (a:Int):Option (Plan×Line):=
Zb (zdi .i64 a 2) λx5=>
Zb (zdi .i64 a 2) λx7=>
Ob ((([(((0,0,()),1,[((0,Oc,()):zl)],0,()):zcw),((((a,0,()):Spot),1,[((0,Od,()):zl)],0,()):zcw)],[((0,1,[],8000,0,()):Rail)],()):Plan),(((([((0,Oc,()):zL)],[1000,x5,a],[0,20,0],()):Course),(([((0,Od,()):zL)],[1000,x7,a],[0,10,0],()):Course),((1000,1000,8000,2000,2000,1000000,0,0,0,[1000],()):Train),0,30,()):Line))
def zfx :Option Bool:=
Zb (zd0 21000) λy1=>
Zb (zb5 y1.1 y1.2.1.1 y1.2.2.2.1 0 y1.2.1.2.1) λy4=>
Zb (zaa y1.1 y1.2 Oc) λy6=>
Zb (cond (y4.2==0) (cond (y6.2==0) (cond (zp y4.1==2) (cond (zp y6.1==3) (Zb (idx y6.1 1) λxa=>
Zb (idx y4.1 0) λxb=>
Zb (zdi .i64 (w64 (xb+999)) 1000) λxd=>
Ob (xa==w64 (xd+20))) (Ob Oc)) (Ob Oc)) (Ob Oc)) (Ob Oc)) λca=>
Ob ca
def zcI :Option Bool:=
Zb zfx λy1=>
Ob y1
def zdy (b:Plan) (a:List Line):Option (List zz×Bool):=
Zb (z5 (zp a) 1 20) λy1=>
cond (!y1) (Ob ([],Oc)) (Zb (iter (σ:=(List zz×Int)) (τ:=List zz⊕(List zz×Bool)) (λsa=>
cond (decide (sa.2<zp a)) (Zb (idx a sa.2) λxa=>
Zb (zcR b xa) λya=>
cond (!ya.2) (Ob (.inr (.inr ([],Oc)))) (Zb ya.1 λpa=>
Zb (zde 8 sa.1 ([pa])) λxb=>
Ob (.inl (xb,w64 (sa.2+1))))) (Ob (.inr (.inl sa.1)))) big ([],0)) λta=>
alt (λbb=>Ob (bb,Od)) (λba=>Ob (ba.1,ba.2)) ta)
def zcq (b:Plan) (a:Service):Option (List zz×Bool):=
Zb (cond ((zp a.2.1)!=zp a.1) (Ob Od) (Ob ((zp a.2.2.1)!=zp a.1))) λc4=>
cond c4 (Ob ([],Oc)) (Zb (iter (σ:=Int) (τ:=Unit⊕(List zz×Bool)) (λsa=>
cond (decide (sa<zp a.2.1)) (Zb (idx a.2.1 sa) λxa=>
Zb (z5 xa 30 7200) λyb=>
cond (!yb) (Ob (.inr (.inr ([],Oc)))) (Zb (idx a.2.2.1 sa) λxb=>
Zb (z5 xb 0 (w64 (xa-1))) λyc=>
cond (!yc) (Ob (.inr (.inr ([],Oc)))) (Ob (.inl (w64 (sa+1)))))) (Ob (.inr (.inl ())))) big 0) λta=>
alt (λbb=>Zb (zdy b a.1) λya=>
Ob (ya.1,ya.2)) (λba=>Ob (ba.1,ba.2)) ta)
def zab (a:List Works) (b:(Works->Option Bool)):Option Int:=
Zb (iter (σ:=Int) (τ:=Unit⊕Int) (λs5=>
cond (decide (s5<zp a)) (Zb (idx a s5) λx8=>
Zb (b x8) λy9=>
cond y9 (Ob (.inr (.inr s5))) (Ob (.inl (w64 (s5+1))))) (Ob (.inr (.inl ())))) big 0) λta=>
alt (λbb=>Ob (-1)) (λba=>Ob ba) ta
def zX (a:List Works) (b:(Works->Option Bool)):Option Bool:=
Zb (zab a b) λy1=>
Ob (decide (y1>=0))
def zbU (a:Works) (b:Plan):Option Bool:=
Zb (Zb (z5 a.1 0 (w64 (zp b.2.1-1))) λy6=>
cond (!y6) (Ob Od) (Zb (z5 a.2.1 0 a.2.2.1) λy8=>
cond (!y8) (Ob Od) (Ob (decide (a.2.2.1>200000))))) λc5=>
Ob c5
def zcZ (b:Plan) (a:List Works):Option Bool:=
Zb (cond (decide (zp a<=100)) (Zb (zX a (λx=>zbU x b)) λy6=>
Ob (!y6)) (Ob Oc)) λc4=>
Ob c4
def zA (b:zz) (a:Int):Option Int:=
Zb (idx b.2.2.1 a) λx4=>
Zb (idx b.2.2.1 a) λx5=>
Zb (idx x4 (w64 (zp x5-1))) λx6=>
Ob x6
def zbv (a:zz):Option Int:=
Zb (zA a 0) λy3=>
Zb (zA a 1) λy4=>
Ob (w64 (w64 (y3+y4)+w64 (2*a.1.2.2.2.2.1)))
def zba (b:zz) (a:Int):Option Int:=
Zb (zbv b) λy1=>
Zb (zdi .i64 (w64 (w64 (y1+a)-1)) a) λx2=>
Ob x2
def zcu (c:zz) (d:Int) (a:Int) (b:Int):Option Int:=
cond (d==0) (Ob b) (Zb (zA c 0) λy6=>
Zb (zba c a) λy7=>
Zb (zbv c) λy8=>
Zb (zdi .i64 (w64 (w64 (y7*a)-y8)) 2) λx9=>
Ob (w64 (w64 (w64 (b+y6)+c.1.2.2.2.2.1)+x9)))
def zcb (b:Int) (a:Int):Option Int:=
Zb (zq6 b a) λx1=>
Zb (zq6 (w64 (x1+a)) a) λx2=>
Ob x2
def zK {σ τ:Type} (step:σ->(Int×Int)->Option (σ⊕τ)) (s_:σ) (c:zz) (d:Int) (a:Int) (e:Int) (b:Int):Option (σ⊕τ):=
Zb (zcu c d a e) λy1=>
Zb (zcb (w64 (y1-b)) a) λy3=>
Zb (iter (σ:=(Int×(σ⊕τ))) (τ:=(σ⊕τ)) (λsa=>
Zb (zdi .i64 (w64 (sa.1-y1)) a) λxa=>
Zb (zba c a) λyb=>
Zb (zcb xa yb) λyc=>
Zb (goL sa.2) λsb=>
Zb (step sb (sa.1,yc)) λya=>
cond (!(ya).isLeft) (Ob (.inr ya)) (Ob (.inl (w64 (sa.1+a),ya)))) big (w64 (b+y3),(.inl s_))) λta=>
Ob ta
def zat (e:zz) (d:Int) (a:Int) (b:Int) (c:Int):Option (zz×Int×Int×Int×Int):=
Ob (e,d,a,b,c)
def zaB (a:List zL) (b:(zL->Option Bool)):Option Int:=
Zb (iter (σ:=Int) (τ:=Unit⊕Int) (λs5=>
cond (decide (s5<zp a)) (Zb (idx a s5) λx8=>
Zb (b x8) λy9=>
cond y9 (Ob (.inr (.inr s5))) (Ob (.inl (w64 (s5+1))))) (Ob (.inr (.inl ())))) big 0) λta=>
alt (λbb=>Ob (-1)) (λba=>Ob ba) ta
def za0 (a:List zL) (b:(zL->Option Bool)):Option Bool:=
Zb (zaB a b) λy1=>
Ob (decide (y1>=0))
def zbW (a:zL) (b:Works):Option Bool:=
Ob (a.1==b.1)
def za3 (a:Works) (e:List zL) (b:Int) (d:zz) (c:Int):Option Bool:=
Zb (za0 e (λx=>zbW x a)) λy1=>
Zb (cond y1 (cond (decide (b<a.2.2.1)) (Zb (zA d c) λya=>
Ob (decide (a.2.1<w64 (b+ya)))) (Ob Oc)) (Ob Oc)) λc8=>
Ob c8
def zaD (c:zz) (a:Int) (b:Int) (d:List Works):Option Bool:=
Zb (zcn c.1) λy4=>
Zb (idx y4 a) λx5=>
Zb (zX d (λx=>za3 x x5.1 b c a)) λy7=>
Ob (!y7)
def zaw (a:Int):Option (List Trip):=
cond (decide (a<0)) Oe (cond (decide (w64 (a-w64 (0-0))>0)) (Zb (zo9 32 (w64 (a-w64 (0-0))) ((0,Oc,0,0,()):Trip)) λx3=>
Zb (slz x3) λx5=>
Ob ([]:List Trip)) (Ob ([])))
def zaq (a:List (List Trip)):Option (List Trip):=
Zb (iter (σ:=(Int×Int)) (τ:=Int) (λs4=>
cond (decide (s4.2<zp a)) (Zb (idx a s4.2) λx7=>
cond (decide (w64 (s4.1+zp x7)<0)) Oe (Ob (.inl (w64 (s4.1+zp x7),w64 (s4.2+1))))) (Ob (.inr s4.1))) big (0,0)) λt9=>
Zb (zaw t9) λya=>
Zb (iter (σ:=(List Trip×Int)) (τ:=List Trip) (λsa=>
cond (decide (sa.2<zp a)) (Zb (idx a sa.2) λxa=>
Zb (zde 32 sa.1 xa) λxb=>
Ob (.inl (xb,w64 (sa.2+1)))) (Ob (.inr sa.1))) big (ya,0)) λta=>
Ob ta
def zJ   (a:List Trip) (c:Int) (d:Int) (b:((Trip×Trip)->Option Int)):Option (List Trip):=
Zb (iter (σ:=(Int×List Trip)) (τ:=List Trip) (λsb=>
cond (decide (sb.1<d)) (Zb (iter (σ:=(Int×List Trip)) (τ:=List Trip) (λsa=>
cond (decide (sa.1>c)) (Zb (idx sa.2 sa.1) λxb=>
Zb (idx sa.2 (w64 (sa.1-1))) λxd=>
Zb (b (xb,xd)) λya=>
cond (decide (ya<0)) (Zb (idx sa.2 (w64 (sa.1-1))) λxa=>
Zb (idx sa.2 sa.1) λxe=>
Zb (idx sa.2 sa.1) λxf=>
Zb (idx ((sa.2).set (Int.toNat sa.1) xa) (w64 (sa.1-1))) λxg=>
Ob (.inl (w64 (sa.1-1),((sa.2).set (Int.toNat sa.1) xa).set (Int.toNat (w64 (sa.1-1))) xe))) (Ob (.inr sa.2))) (Ob (.inr sa.2))) big (sb.1,sb.2)) λta=>
Ob (.inl (w64 (sb.1+1),ta))) (Ob (.inr sb.2))) big (w64 (c+1),a)) λtb=>
Ob tb
def zt   (a:List Trip) (b:Int) (c:Int) (d:Int) (e:((Trip×Trip)->Option Int)):Option (List Trip):=
Zb (iter (σ:=(Int×List Trip)) (τ:=List Trip) (λsa=>
cond (decide (sa.1<d)) (Zb (idx sa.2 (w64 (c+sa.1))) λxa=>
Zb (idx sa.2 (w64 (b+sa.1))) λxb=>
Zb (idx sa.2 (w64 (b+sa.1))) λxd=>
Zb (idx ((sa.2).set (Int.toNat (w64 (b+sa.1))) xa) (w64 (c+sa.1))) λxe=>
Ob (.inl (w64 (sa.1+1),((sa.2).set (Int.toNat (w64 (b+sa.1))) xa).set (Int.toNat (w64 (c+sa.1))) xb))) (Ob (.inr sa.2))) big (0,a)) λta=>
Ob ta
def z4   (c:List Trip) (d:Int) (a:Int) (e:Int) (b:((Trip×Trip)->Option Int)):Option (List Trip):=
Zb (iter (σ:=(Int×Int×List Trip)) (τ:=(Int×List Trip)) (λsa=>
cond (sa.1 !=sa.2.1) (cond (decide (sa.1>sa.2.1)) (Zb (zt sa.2.2 (w64 (a-sa.1)) a sa.2.1 b) λya=>
Ob (.inl (w64 (sa.1-sa.2.1),sa.2.1,ya))) (Zb (zt sa.2.2 (w64 (a-sa.1)) (w64 (w64 (a+sa.2.1)-sa.1)) sa.1 b) λyb=>
Ob (.inl (sa.1,w64 (sa.2.1-sa.1),yb)))) (Ob (.inr (sa.1,sa.2.2)))) big (w64 (a-d),w64 (e-a),c)) λta=>
Zb (zt ta.2 (w64 (a-ta.1)) a ta.1 b) λyc=>
Ob yc
def zn   (rec:List Trip->Int->Int->Int->((Trip×Trip)->Option Int)->Option (List Trip)) (a:List Trip) (e:Int) (b:Int) (d:Int) (c:((Trip×Trip)->Option Int)):Option (List Trip):=
cond (w64 (b-e)==1) (Zb (iter (σ:=(Int×Int)) (τ:=Int) (λsc=>
cond (decide (sc.1<sc.2)) (Zb (zjC .u64 (IntKind.u64.wrap (w64 (sc.1+sc.2))) 1) λxe=>
Zb (idx a (w64 xe)) λxi=>
Zb (idx a e) λxj=>
Zb (c (xi,xj)) λyg=>
cond (decide (yg<0)) (Ob (.inl (w64 (w64 xe+1),sc.2))) (Ob (.inl (sc.1,w64 xe)))) (Ob (.inr sc.1))) big (b,d)) λtc=>
Zb (iter (σ:=(Int×List Trip)) (τ:=List Trip) (λsa=>
cond (decide (sa.1<w64 (tc-1))) (Zb (idx sa.2 (w64 (sa.1+1))) λxg=>
Zb (idx sa.2 sa.1) λxk=>
Zb (idx sa.2 sa.1) λxt=>
Zb (idx ((sa.2).set (Int.toNat sa.1) xg) (w64 (sa.1+1))) λxu=>
Ob (.inl (w64 (sa.1+1),((sa.2).set (Int.toNat sa.1) xg).set (Int.toNat (w64 (sa.1+1))) xk))) (Ob (.inr sa.2))) big (e,a)) λtd=>
Ob td) (cond (w64 (d-b)==1) (Zb (iter (σ:=(Int×Int)) (τ:=Int) (λsd=>
cond (decide (sd.1<sd.2)) (Zb (zjC .u64 (IntKind.u64.wrap (w64 (sd.1+sd.2))) 1) λxf=>
Zb (idx a b) λxl=>
Zb (idx a (w64 xf)) λxm=>
Zb (c (xl,xm)) λyh=>
cond (!(decide (yh<0))) (Ob (.inl (w64 (w64 xf+1),sd.2))) (Ob (.inl (sd.1,w64 xf)))) (Ob (.inr sd.1))) big (e,b)) λte=>
Zb (iter (σ:=(Int×List Trip)) (τ:=List Trip) (λsb=>
cond (decide (sb.1>te)) (Zb (idx sb.2 (w64 (sb.1-1))) λxh=>
Zb (idx sb.2 sb.1) λxn=>
Zb (idx sb.2 sb.1) λxv=>
Zb (idx ((sb.2).set (Int.toNat sb.1) xh) (w64 (sb.1-1))) λxw=>
Ob (.inl (w64 (sb.1-1),((sb.2).set (Int.toNat sb.1) xh).set (Int.toNat (w64 (sb.1-1))) xn))) (Ob (.inr sb.2))) big (b,a)) λtf=>
Ob tf) (Zb (zjC .u64 (IntKind.u64.wrap (w64 (e+d))) 1) λxa=>
cond (decide (b>w64 xa)) (Zb (iter (σ:=(Int×Int)) (τ:=Int) (λse=>
cond (decide (se.1<se.2)) (Zb (zjC .u64 (IntKind.u64.wrap (w64 (se.1+se.2))) 1) λxb=>
Zb (idx a (w64 (w64 (w64 (w64 xa+b)-1)-w64 xb))) λxo=>
Zb (idx a (w64 xb)) λxp=>
Zb (c (xo,xp)) λyi=>
cond (!(decide (yi<0))) (Ob (.inl (w64 (w64 xb+1),se.2))) (Ob (.inl (se.1,w64 xb)))) (Ob (.inr se.1))) big (w64 (w64 (w64 xa+b)-d),w64 xa)) λta=>
Zb (cond (decide (ta<b)) (Ob (decide (b<w64 (w64 (w64 xa+b)-ta)))) (Ob Oc)) λca=>
cond ca (Zb (z4 a ta b (w64 (w64 (w64 xa+b)-ta)) c) λya=>
Zb (cond (decide (e<ta)) (Ob (decide (ta<w64 xa))) (Ob Oc)) λcc=>
cond cc (Zb (rec ya e ta (w64 xa) c) λyc=>
Zb (cond (decide (w64 xa<w64 (w64 (w64 xa+b)-ta))) (Ob (decide (w64 (w64 (w64 xa+b)-ta)<d))) (Ob Oc)) λcd=>
cond cd (Zb (rec yc (w64 xa) (w64 (w64 (w64 xa+b)-ta)) d c) λyj=>
Ob yj) (Ob yc)) (Zb (cond (decide (w64 xa<w64 (w64 (w64 xa+b)-ta))) (Ob (decide (w64 (w64 (w64 xa+b)-ta)<d))) (Ob Oc)) λce=>
cond ce (Zb (rec ya (w64 xa) (w64 (w64 (w64 xa+b)-ta)) d c) λyk=>
Ob yk) (Ob ya))) (Zb (cond (decide (e<ta)) (Ob (decide (ta<w64 xa))) (Ob Oc)) λcf=>
cond cf (Zb (rec a e ta (w64 xa) c) λyd=>
Zb (cond (decide (w64 xa<w64 (w64 (w64 xa+b)-ta))) (Ob (decide (w64 (w64 (w64 xa+b)-ta)<d))) (Ob Oc)) λcg=>
cond cg (Zb (rec yd (w64 xa) (w64 (w64 (w64 xa+b)-ta)) d c) λyl=>
Ob yl) (Ob yd)) (Zb (cond (decide (w64 xa<w64 (w64 (w64 xa+b)-ta))) (Ob (decide (w64 (w64 (w64 xa+b)-ta)<d))) (Ob Oc)) λch=>
cond ch (Zb (rec a (w64 xa) (w64 (w64 (w64 xa+b)-ta)) d c) λym=>
Ob ym) (Ob a)))) (Zb (iter (σ:=(Int×Int)) (τ:=Int) (λsf=>
cond (decide (sf.1<sf.2)) (Zb (zjC .u64 (IntKind.u64.wrap (w64 (sf.1+sf.2))) 1) λxd=>
Zb (idx a (w64 (w64 (w64 (w64 xa+b)-1)-w64 xd))) λxq=>
Zb (idx a (w64 xd)) λxr=>
Zb (c (xq,xr)) λyn=>
cond (!(decide (yn<0))) (Ob (.inl (w64 (w64 xd+1),sf.2))) (Ob (.inl (sf.1,w64 xd)))) (Ob (.inr sf.1))) big (e,b)) λtb=>
Zb (cond (decide (tb<b)) (Ob (decide (b<w64 (w64 (w64 xa+b)-tb)))) (Ob Oc)) λci=>
cond ci (Zb (z4 a tb b (w64 (w64 (w64 xa+b)-tb)) c) λyb=>
Zb (cond (decide (e<tb)) (Ob (decide (tb<w64 xa))) (Ob Oc)) λcj=>
cond cj (Zb (rec yb e tb (w64 xa) c) λye=>
Zb (cond (decide (w64 xa<w64 (w64 (w64 xa+b)-tb))) (Ob (decide (w64 (w64 (w64 xa+b)-tb)<d))) (Ob Oc)) λck=>
cond ck (Zb (rec ye (w64 xa) (w64 (w64 (w64 xa+b)-tb)) d c) λyo=>
Ob yo) (Ob ye)) (Zb (cond (decide (w64 xa<w64 (w64 (w64 xa+b)-tb))) (Ob (decide (w64 (w64 (w64 xa+b)-tb)<d))) (Ob Oc)) λcl=>
cond cl (Zb (rec yb (w64 xa) (w64 (w64 (w64 xa+b)-tb)) d c) λyp=>
Ob yp) (Ob yb))) (Zb (cond (decide (e<tb)) (Ob (decide (tb<w64 xa))) (Ob Oc)) λcm=>
cond cm (Zb (rec a e tb (w64 xa) c) λyf=>
Zb (cond (decide (w64 xa<w64 (w64 (w64 xa+b)-tb))) (Ob (decide (w64 (w64 (w64 xa+b)-tb)<d))) (Ob Oc)) λcn=>
cond cn (Zb (rec yf (w64 xa) (w64 (w64 (w64 xa+b)-tb)) d c) λyq=>
Ob yq) (Ob yf)) (Zb (cond (decide (w64 xa<w64 (w64 (w64 xa+b)-tb))) (Ob (decide (w64 (w64 (w64 xa+b)-tb)<d))) (Ob Oc)) λco=>
cond co (Zb (rec a (w64 xa) (w64 (w64 (w64 xa+b)-tb)) d c) λyr=>
Ob yr) (Ob a))))))
def zu  :Nat->List Trip->Int->Int->Int->((Trip×Trip)->Option Int)->Option (List Trip)
 | 0=>λ_ _ _ _ _=>Oe
 | k+1=>zn (zu k)
def za4   (c:List Trip) (b:Int) (a:((Trip×Trip)->Option Int)):Option (List Trip):=
Zb (iter (σ:=(Int×Int×List Trip)) (τ:=(Int×List Trip)) (λs7=>
cond (decide (s7.2.1<=b)) (Zb (zJ s7.2.2 s7.1 s7.2.1 a) λya=>
Ob (.inl (s7.2.1,w64 (s7.2.1+20),ya))) (Ob (.inr (s7.1,s7.2.2)))) big (0,20,c)) λtb=>
Zb (zJ tb.2 tb.1 b a) λyb=>
Zb (iter (σ:=(Int×List Trip)) (τ:=List Trip) (λsa=>
cond (decide (sa.1<b)) (Zb (iter (σ:=(Int×Int×List Trip)) (τ:=(Int×List Trip)) (λsb=>
cond (decide (sb.2.1<=b)) (Zb (zu big sb.2.2 sb.1 (w64 (sb.1+sa.1)) sb.2.1 a) λyc=>
Ob (.inl (sb.2.1,w64 (sb.2.1+w64 (2*sa.1)),yc))) (Ob (.inr (sb.1,sb.2.2)))) big (0,w64 (2*sa.1),sa.2)) λta=>
cond (decide (w64 (ta.1+sa.1)<b)) (Zb (zu big ta.2 ta.1 (w64 (ta.1+sa.1)) b a) λyd=>
Ob (.inl (w64 (sa.1*2),yd))) (Ob (.inl (w64 (sa.1*2),ta.2)))) (Ob (.inr sa.2))) big (20,yb)) λtc=>
Ob tc
def zY   (b:List Trip) (a:((Trip×Trip)->Option Int)):Option (List Trip):=
Zb (za4 b (zp b) a) λy1=>
Ob y1
def zbX (a:((Trip×Trip)->Option Int)) (b:List (List Trip)):Option (List Trip):=
Zb (zaq b) λy1=>
Zb (zY y1 a) λy3=>
Ob y3
def zeY (a:Int) (b:Int):Option Int:=
Zb (zbr a) λy1=>
Zb (zbr b) λy2=>
cond y1 (cond y2 (Ob 0) (Ob (-1))) (cond y2 (Ob 1) (cond (decide (a<b)) (Ob (-1)) (cond (decide (a>b)) (Ob 1) (Ob 0))))
def zc0 (b:Trip) (a:Trip):Option Int:=
Zb (zeY b.2.2.2.1 a.2.2.2.1) λy1=>
Ob y1
def zc1 (d:Plan) (c:Service) (e:List Works) (b:Int) (a:Int):Option (List Trip×Int):=
Zb (zcq d c) λy1=>
Zb (cond (!y1.2) (Ob Od) (Zb (zcZ d e) λy9=>
cond (!y9) (Ob Od) (Zb (z5 b 0 a) λyc=>
cond (!yc) (Ob Od) (Ob (decide (a>200000)))))) λc7=>
cond c7 (Ob ([],2)) (Zb (iter (σ:=(List (List Trip)×Int)) (τ:=List (List Trip)) (λsb=>
cond (decide (sb.2<zp y1.1)) (Zb (idx y1.1 sb.2) λxb=>
Zb (iter (σ:=(List (List Trip)×Int)) (τ:=List (List Trip)) (λsa=>
cond (decide (sa.2<2)) (Zb (idx c.2.1 sb.2) λxd=>
Zb (idx c.2.2.1 sb.2) λxe=>
Zb (zat xb sa.2 xd xe b) λya=>
Zb (zK (σ:=List Trip) (τ:=List Trip) (λsc xa=>
Zb (zA xb sa.2) λyd=>
cond (decide (w64 (xa.1+yd)>a)) (Ob (.inr sc)) (Zb (zaD xb sa.2 xa.1 e) λye=>
cond ye (Zb (zde 32 sc ([((sb.2,(sa.2==1),xa.2,xa.1,()):Trip)])) λxf=>
Ob (.inl xf)) (Ob (.inl sc)))) ([]) ya.1 ya.2.1 ya.2.2.1 ya.2.2.2.1 ya.2.2.2.2) λta=>
alt (λba=>Zb (zde 24 sa.1 ([ba])) λxg=>
Ob (.inl (xg,w64 (sa.2+1)))) (λbb=>Zb (zde 24 sa.1 ([bb])) λxh=>
Ob (.inl (xh,w64 (sa.2+1)))) ta) (Ob (.inr sa.1))) big (sb.1,0)) λtb=>
Ob (.inl (tb,w64 (sb.2+1)))) (Ob (.inr sb.1))) big ([],0)) λtc=>
Zb (zbX (λx=>zc0 x.1 x.2) tc) λyb=>
cond (decide (zp yb>5000)) (Ob ([],3)) (Ob (yb,0)))
def zeC (a:Plan) (b:Service):Option Int:=
Zb (zcq a b) λy1=>
cond (!y1.2) (Ob 2) (Ob 0)
def zad (a:List Turnback) (b:(Turnback->Option Bool)):Option Int:=
Zb (iter (σ:=Int) (τ:=Unit⊕Int) (λs5=>
cond (decide (s5<zp a)) (Zb (idx a s5) λx8=>
Zb (b x8) λy9=>
cond y9 (Ob (.inr (.inr s5))) (Ob (.inl (w64 (s5+1))))) (Ob (.inr (.inl ())))) big 0) λta=>
alt (λbb=>Ob (-1)) (λba=>Ob ba) ta
def zas (a:List Turnback) (b:(Turnback->Option Bool)):Option Bool:=
Zb (zad a b) λy1=>
Ob (decide (y1>=0))
def zbE (c:Int) (b:Int) (a:Int):Option Bool:=
Zb (cond (decide (c>=b)) (Ob (decide (c<=a))) (Ob Oc)) λc4=>
Ob c4
def zaE (a:zM):Option Int:=
Ob (w64 (zp a.1.2.1-1))
def zdz (a:Bool):Option Int:=
cond a (Ob 1) (Ob 0)
def zaJ (a:Turnback) (b:zaR):Option Bool:=
Zb (Zb (zbE a.1 0 (w64 (zp b.2.1-1))) λy8=>
cond (!y8) (Ob Od) (Zb (zbE a.2.2.2.2.1 1 3600) λya=>
Ob (!ya))) λc7=>
cond c7 (Ob Od) (Zb (idx b.2.1 a.1) λxa=>
Zb (Zb (zdz a.2.1) λyb=>
Zb (idx xa yb) λxb=>
Zb (zaE xb) λyc=>
Zb (zbE a.2.2.1 1 (w64 (yc-1))) λyd=>
cond (!yd) (Ob Od) (Zb (zdz (!a.2.1)) λye=>
Zb (idx xa ye) λxd=>
Zb (zaE xd) λyf=>
Zb (zbE a.2.2.2.1 1 (w64 (yf-1))) λyg=>
Ob (!yg))) λca=>
Ob ca)
def zbj (a:zaR):Option Bool:=
Zb (cond (decide (zp a.1.2.2.2.2.2.1<=60)) (Zb (zas a.1.2.2.2.2.2.1 (λx=>zaJ x a)) λy6=>
Ob (!y6)) (Ob Oc)) λc4=>
Ob c4
def zci (a:Day):Option (Option zaR×Int):=
Zb (zeC a.1 a.2.1) λy1=>
cond (y1 !=0) (Ob ((Oe:Option zaR),2)) (Zb (iter (σ:=(Int×List (List zM))) (τ:=List (List zM)) (λsc=>
cond (decide (sc.1<zp a.2.1.1)) (Zb (idx a.2.1.1 sc.1) λxb=>
Zb (iter (σ:=(Int×List zM)) (τ:=List zM) (λsa=>
cond (decide (sa.1<2)) (Zb (idx ([xb.1,xb.2.1]:List Course) sa.1) λxd=>
Zb (zaa a.1 xb (sa.1==1)) λyb=>
Zb (idx sa.2 sa.1) λxg=>
Ob (.inl (w64 (sa.1+1),(sa.2).set (Int.toNat sa.1) ((xd,yb.1,()):zM)))) (Ob (.inr sa.2))) big (0,List.replicate 2 ((([],[],[],()),[],()):zM))) λtb=>
Zb (zde 192 sc.2 ([tb])) λxe=>
Ob (.inl (w64 (sc.1+1),xe))) (Ob (.inr sc.2))) big (0,[])) λta=>
Zb (zbj (((a.1.1,a.1.2.1,()),(a.2.1.1,a.2.1.2.1,a.2.1.2.2.1,()),a.2.2.1,a.2.2.2.1,a.2.2.2.2.1,a.2.2.2.2.2.1,()),ta,[],([]:List (zw×List Int)),())) λyc=>
cond (!yc) (Ob ((Oe:Option zaR),2)) (Zb (zc1 a.1 a.2.1 a.2.2.1 a.2.2.2.1 a.2.2.2.2.1) λya=>
cond (ya.2 !=0) (Ob ((Oe:Option zaR),ya.2)) (cond (decide (zp ya.1>1000)) (Ob ((Oe:Option zaR),3)) (Zb (iter (σ:=(Int×List (zw×List Int))) (τ:=List (zw×List Int)) (λsb=>
cond (decide (sb.1<zp ya.1)) (Zb (idx ya.1 sb.1) λxa=>
Zb (zde 8 ((mget sb.2 ((xa.1,xa.2.2.1,()):zw)).getD []) ([sb.1])) λxf=>
Ob (.inl (w64 (sb.1+1),mset sb.2 ((xa.1,xa.2.2.1,()):zw) xf))) (Ob (.inr sb.2))) big (0,([]:List (zw×List Int)))) λtc=>
Ob (Ob (((a.1.1,a.1.2.1,()),(a.2.1.1,a.2.1.2.1,a.2.1.2.2.1,()),a.2.2.1,a.2.2.2.1,a.2.2.2.2.1,a.2.2.2.2.2.1,()),ta,ya.1,tc,()),0)))))
def zdA (a:Day):Option (List Trip×Int):=
Zb (zci a) λy1=>
cond (y1.2 !=0) (Ob ([],y1.2)) (Zb y1.1 λp3=>
Ob (p3.2.2.1,0))
def zbA (b:zaR) (a:Int):Option zM:=
Zb (idx b.2.2.1 a) λx2=>
Zb (zdz x2.2.1) λy7=>
Zb (idx b.2.1 x2.1) λx8=>
Zb (idx x8 y7) λx9=>
Ob x9
def zcy (c:zaR) (b:zM) (a:Int):Option Int:=
Zb (iter (σ:=(Int×Int)) (τ:=Unit⊕Int) (λs8=>
cond (decide (s8.2<zp b.1.1)) (Zb (idx b.1.1 s8.2) λxa=>
Zb (zbb c.1.1 xa.1) λya=>
Zb (idx b.1.2.1 a) λxb=>
cond (decide (xb<=w64 (s8.1+ya.1))) (Ob (.inr (.inr s8.2))) (Ob (.inl (w64 (s8.1+ya.1),w64 (s8.2+1))))) (Ob (.inr (.inl ())))) big (0,0)) λta=>
alt (λbb=>Ob (w64 (zp b.1.1-1))) (λba=>Ob ba) ta
def zaU (b:zM) (a:Int):Option Int:=
Zb (idx b.2.1 a) λx3=>
Zb (idx b.1.2.2.1 a) λx4=>
Ob (w64 (x3-x4))
def zbB {σ τ:Type} (step:σ->Use->Option (σ⊕τ)) (s_:σ) (a:zaR) (b:Int):Option (σ⊕τ):=
Zb (zbA a b) λy4=>
Zb (idx a.2.2.1 b) λx5=>
Zb (zaE y4) λy7=>
Zb (iter (σ:=(Int×(σ⊕τ))) (τ:=(σ⊕τ)⊕(σ⊕τ)) (λsa=>
cond (decide (sa.1<y7)) (Zb (zcy a y4 sa.1) λyb=>
Zb (zcy a y4 (w64 (sa.1+1))) λyd=>
Zb (cond (decide (sa.1>0)) (Zb (idx y4.1.2.2.1 sa.1) λxb=>
cond (decide (xb>0)) (Zb (idx y4.1.1 yb) λxd=>
Zb (zaU y4 sa.1) λye=>
Zb (idx y4.2.1 sa.1) λxe=>
Zb (goL sa.2) λsc=>
Zb (step sc ((xd.1,w64 (x5.2.2.2.1+ye),w64 (x5.2.2.2.1+xe),()):Use)) λyc=>
Ob ((!(yc).isLeft),yc)) (Ob (Oc,sa.2))) (Ob (Oc,sa.2))) λca=>
cond ca.1 (Ob (.inr (.inr ca.2))) (Zb (slO y4.1.1 yb (w64 (yd+1))) λxa=>
Zb (iter (σ:=(Int×(σ⊕τ))) (τ:=(σ⊕τ)⊕(σ⊕τ)) (λsb=>
cond (decide (sb.1<zp xa)) (Zb (idx xa sb.1) λxf=>
Zb (idx y4.2.1 sa.1) λxg=>
Zb (zaU y4 (w64 (sa.1+1))) λyf=>
Zb (goL sb.2) λsd=>
Zb (step sd ((xf.1,w64 (x5.2.2.2.1+xg),w64 (x5.2.2.2.1+yf),()):Use)) λya=>
cond (!(ya).isLeft) (Ob (.inr (.inr ya))) (Ob (.inl (w64 (sb.1+1),ya)))) (Ob (.inr (.inl sb.2)))) big (0,ca.2)) λta=>
alt (λba=>Ob (.inl (w64 (sa.1+1),ba))) (λbb=>Ob (.inr (.inr bb))) ta)) (Ob (.inr (.inl sa.2)))) big (0,(.inl s_))) λtb=>
alt (λbc=>Ob bc) (λbd=>Ob bd) tb
def zdm (b:zaR) (a:Int):Option (zaR×Int):=
Ob (b,a)
def zaL (a:(zaR×Int)):Option (List Use):=
Zb (zbB (σ:=List Use) (τ:=Unit) (λs9 x2=>
Zb (zde 24 s9 ([x2])) λxa=>
Ob (.inl xa)) ([]) a.1 a.2) λta=>
Zb (goL ta) λba=>
Ob ba
def zb9 (a:(zaR×Int)):Option (List Use):=
Zb (zaL (a.1,a.2)) λy1=>
Ob y1
def zd1 (b:Day) (a:Int):Option (List Use×Int):=
Zb (zci b) λy1=>
Zb (cond (y1.2==2) (Ob Od) (cond (y1.2==0) (Zb y1.1 λp9=>
Zb (zbE a 0 (w64 (zp p9.2.2.1-1))) λyb=>
Ob (!yb)) (Ob Oc))) λc6=>
cond c6 (Ob ([],2)) (cond (y1.2 !=0) (Ob ([],y1.2)) (Zb y1.1 λpa=>
Zb (zdm pa a) λya=>
Zb (zb9 (ya.1,ya.2)) λyc=>
Ob (yc,0)))
def zd2 (d:Plan) (c:List zL) (a:Int) (b:Int):Option (List Cover×Int):=
Zb (zdw d) λy1=>
Zb (cond (!y1.2) (Ob Od) (Zb y1.1 λpa=>
Zb (zbQ pa c) λya=>
cond (!ya) (Ob Od) (cond (decide (b<1)) (Ob Od) (cond (decide (a<b)) (Ob Od) (Zb y1.1 λpb=>
Zb (zaN pb c) λyb=>
Ob (decide (a>yb))))))) λca=>
cond ca (Ob ([],2)) (Zb (iter (σ:=(List Cover×Int×Int)) (τ:=List Cover) (λsa=>
cond (decide (sa.2.2<zp c)) (Zb (idx c sa.2.2) λxb=>
Zb y1.1 λpc=>
Zb (idx pc.2.1 xb.1) λxa=>
cond (decide (max (w64 (w64 (a-b)-sa.2.1)) 0>=min (w64 (a-sa.2.1)) xa)) (Ob (.inl (sa.1,w64 (sa.2.1+xa),w64 (sa.2.2+1)))) (cond xb.2.1 (Zb (zde 24 sa.1 ([((xb.1,w64 (xa-min (w64 (a-sa.2.1)) xa),w64 (xa-max (w64 (w64 (a-b)-sa.2.1)) 0),()):Cover)])) λxd=>
Ob (.inl (xd,w64 (sa.2.1+xa),w64 (sa.2.2+1)))) (Zb (zde 24 sa.1 ([((xb.1,max (w64 (w64 (a-b)-sa.2.1)) 0,min (w64 (a-sa.2.1)) xa,()):Cover)])) λxe=>
Ob (.inl (xe,w64 (sa.2.1+xa),w64 (sa.2.2+1)))))) (Ob (.inr sa.1))) big ([],0,0)) λta=>
Ob (ta,0))
def zfy (d:Day) (a:Int) (b:Int) (c:Int):Option Bool:=
Zb (zdv d) λy1=>
cond (!y1) (Zb zcI λy3=>
Ob y3) (Zb (zdA d) λy4=>
Zb (cond (y4.2 !=0) (Ob Od) (cond (decide (a<0)) (Ob Od) (cond (decide (a>=zp y4.1)) (Ob Od) (cond (decide (b<0)) (Ob Od) (cond (decide (c<0)) (Ob Od) (Zb (idx y4.1 a) λxa=>
cond (decide (xa.1<0)) (Ob Od) (Zb (idx y4.1 a) λxb=>
Ob (decide (xb.1>=zp d.2.1.1))))))))) λca=>
cond ca (Zb (cond (y4.2==0) (Zb zcI λye=>
Ob ye) (Ob Oc)) λcc=>
Ob cc) (Zb (idx y4.1 a) λxd=>
Zb (idx y4.1 a) λxe=>
Zb (zcg d xd.1 xe.2.1) λya=>
Zb (cond (decide (b>=w64 (zp ya.2.1-1))) (Ob Od) (Zb (idx ya.2.1 (w64 (b+1))) λxf=>
Zb (idx ya.2.1 b) λxg=>
Ob (decide (c>w64 (xf-xg))))) λcd=>
cond cd (Zb zcI λyf=>
Ob yf) (Zb (idx ya.2.1 b) λxh=>
Zb (zd2 d.1 ya.1 (w64 (xh+c)) 1) λyc=>
Zb (idx y4.1 a) λxi=>
Zb (idx d.2.1.1 xi.1) λxj=>
Zb (idx y4.1 a) λxk=>
Zb (zaa d.1 xj xk.2.1) λyb=>
Zb (zd1 d a) λyd=>
Zb (cond (yc.2 !=0) (Ob Od) (cond (yb.2 !=0) (Ob Od) (cond (yd.2 !=0) (Ob Od) (cond ((zp yc.1)!=1) (Ob Od) (Ob ((zp yb.1)!=zp ya.2.1)))))) λce=>
cond ce (Ob Oc) (Zb (idx yc.1 0) λxl=>
Zb (idx y4.1 a) λxm=>
Zb (idx yb.1 b) λxn=>
Zb (idx y4.1 a) λxo=>
Zb (idx yb.1 (w64 (b+1))) λxp=>
Zb (idx ya.2.2.1 (w64 (b+1))) λxq=>
Zb (iter (σ:=Int) (τ:=Unit⊕Bool) (λsa=>
cond (decide (sa<zp yd.1)) (Zb (idx yd.1 sa) λxr=>
cond (xr==((xl.1,w64 (xm.2.2.2.1+xn),w64 (w64 (xo.2.2.2.1+xp)-xq),()):Use)) (Zb zcI λyg=>
Ob (.inr (.inr yg))) (Ob (.inl (w64 (sa+1))))) (Ob (.inr (.inl ())))) big 0) λta=>
alt (λbb=>Ob Oc) (λba=>Ob ba) ta))))
end Go.Ai.Sx