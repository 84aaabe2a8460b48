/- Written by program: the data of the functions,and the functions as plain Lean. -/
import Derived.Test.YtfamdelkpempgaaGreatV7
set_option linter.unusedSimpArgs false
set_option linter.unusedVariables false
set_option linter.unusedSectionVars false
open Option renaming some→Ob,none→Oe
open Bool renaming false→Oc,true→Od
open Option renaming bind->Zb,bind_some->Zs
namespace Go.Ai.Sx
abbrev Spot:Type:=Int×Int×Unit
abbrev zm:Type:=Int×Bool×Unit
abbrev zcy:Type:=Spot×Int×List zm×Int×Unit
abbrev Rail:Type:=Int×Int×List Spot×Int×Int×Unit
abbrev Plan:Type:=List zcy×List Rail×Unit
abbrev zL:Type:=Int×Bool×Unit
abbrev Course:Type:=List zL×List Int×List Int×Unit
abbrev Train:Type:=Int×Int×Int×Int×Int×Int×Int×Int×Int×List Int×Unit
abbrev Line:Type:=Course×Course×Train×Int×Int×Unit
abbrev ze:Type:=Int×Int×Unit
abbrev zae:Type:=Plan×List zL×Train×Int×Int×Unit
abbrev zab:Type:=Int×Int×Int×Int×Int×Int×Unit
abbrev Cover:Type:=Int×Int×Int×Unit
abbrev Leg:Type:=Int×Int×zab×Int×Int×Unit
abbrev Service:Type:=List Line×List Int×List Int×Unit
abbrev Works:Type:=Int×Int×Int×Unit
abbrev Turnback:Type:=Int×Bool×Int×Int×Int×Unit
abbrev Day:Type:=Plan×Service×List Works×Int×Int×List Turnback×Unit
abbrev zbr:Type:=Plan×List Int×List (zm×Int)×Unit
abbrev zjJ:Type:=Plan×Unit×zd×Unit
abbrev zaG:Type:=zcy×Unit
abbrev zau:Type:=Train×Int×Unit
abbrev zaF:Type:=zau×List zL×List Int×List Int×List Int×List Int×Unit
abbrev zlc:Type:=zau×List zL×Unit×Unit×Unit×List Int×Unit
abbrev zbo:Type:=ze×zab×Int×Int×Unit
abbrev zz:Type:=Line×List (List Int)×List (List Int)×Unit
abbrev Trip:Type:=Int×Bool×Int×Int×Unit
abbrev zM:Type:=Course×List Int×Unit
abbrev zx:Type:=Int×Int×Unit
abbrev zaS:Type:=Day×List (List zM)×List Trip×List (zx×List Int)×Unit
abbrev zld:Type:=Day×Unit×List Trip×zd×Unit
abbrev Use:Type:=Int×Int×Int×Unit
abbrev zcP:Rep Spot:=(zI (zi .i64) (zI (zi .i64) zcT))
abbrev zZ:Rep zm:=(zI (zi .i64) (zI zaM zcT))
abbrev zbh:Rep zcy:=(zI zcP (zI (zi .i64) (zI (zb zZ) (zI (zi .i64) zcT))))
abbrev zc4:Rep Rail:=(zI (zi .i64) (zI (zi .i64) (zI (zb zcP) (zI (zi .i64) (zI (zi .i64) zcT)))))
abbrev zbG:Rep Plan:=(zI (zb zbh) (zI (zb zc4) zcT))
abbrev zU:Rep zL:=(zI (zi .i64) (zI zaM zcT))
abbrev zcb:Rep Course:=(zI (zb zU) (zI (zb (zi .i64)) (zI (zb (zi .i64)) zcT)))
abbrev zb0:Rep Train:=(zI (zi .i64) (zI (zi .i64) (zI (zi .i64) (zI (zi .i64) (zI (zi .i64) (zI (zi .i64) (zI (zi .i64) (zI (zi .i64) (zI (zi .i64) (zI (zb (zi .i64)) zcT))))))))))
abbrev zc5:Rep Line:=(zI zcb (zI zcb (zI zb0 (zI (zi .i64) (zI (zi .i64) zcT)))))
abbrev zy:Rep ze:=(zI (zi .i64) (zI (zi .i64) zcT))
abbrev zal:Rep zae:=(zI zbG (zI (zb zU) (zI zb0 (zI (zi .i64) (zI (zi .i64) zcT)))))
abbrev zC:Rep zab:=(zI (zi .i64) (zI (zi .i64) (zI (zi .i64) (zI (zi .i64) (zI (zi .i64) (zI (zi .i64) zcT))))))
abbrev zhi:Rep Cover:=(zI (zi .i64) (zI (zi .i64) (zI (zi .i64) zcT)))
theorem zrb:FOk zhi 0 (zi .i64) (λx=>x.1) (λx y=>(y,x.2.1,x.2.2.1,())):=FOk.off FOk.here rfl
abbrev zgB:Rep Leg:=(zI (zi .i64) (zI (zi .i64) (zI zC (zI (zi .i64) (zI (zi .i64) zcT)))))
theorem zu6:FOk zgB 0 (zi .i64) (λx=>x.1) (λx y=>(y,x.2.1,x.2.2.1,x.2.2.2.1,x.2.2.2.2.1,())):=FOk.off FOk.here rfl
abbrev zdn:Rep Service:=(zI (zb zc5) (zI (zb (zi .i64)) (zI (zb (zi .i64)) zcT)))
abbrev zb7:Rep Works:=(zI (zi .i64) (zI (zi .i64) (zI (zi .i64) zcT)))
abbrev zat:Rep Turnback:=(zI (zi .i64) (zI zaM (zI (zi .i64) (zI (zi .i64) (zI (zi .i64) zcT)))))
abbrev zlQ:Rep Day:=(zI zbG (zI zdn (zI (zb zb7) (zI (zi .i64) (zI (zi .i64) (zI (zb zat) zcT))))))
abbrev zai:Rep zbr:=(zI zbG (zI (zb (zi .i64)) (zI (zoz zZ (zi .i64)) zcT)))
abbrev zjc:Rep zjJ:=(zI zbG (zI zsx (zI zjE zcT)))
abbrev zay:Rep zaG:=(zI zbh zcT)
abbrev zS:Rep zau:=(zI zb0 (zI (zi .i64) zcT))
abbrev zaH:Rep zaF:=(zI (zaP zS) (zI (zb zU) (zI (zb (zi .i64)) (zI (zb (zi .i64)) (zI (zb (zi .i64)) (zI (zb (zi .i64)) zcT))))))
abbrev zkG:Rep zlc:=(zI (zaP zS) (zI (zb zU) (zI zsx (zI zsx (zI zsx (zI (zb (zi .i64)) zcT))))))
abbrev zaW:Rep zbo:=(zI zy (zI zC (zI (zi .i64) (zI (zi .i64) zcT))))
abbrev zk:Rep zz:=(zI zc5 (zI (zhF 2 (zb (zi .i64))) (zI (zhF 2 (zb (zi .i64))) zcT)))
abbrev z7:Rep Trip:=(zI (zi .i64) (zI zaM (zI (zi .i64) (zI (zi .i64) zcT))))
abbrev zE:Rep zM:=(zI zcb (zI (zb (zi .i64)) zcT))
abbrev zbk:Rep zx:=(zI (zi .i64) (zI (zi .i64) zcT))
abbrev z8:Rep zaS:=(zI zlQ (zI (zb (zhF 2 zE)) (zI (zb z7) (zI (zoz zbk (zb (zi .i64))) zcT))))
abbrev zkH:Rep zld:=(zI zlQ (zI zsx (zI (zb z7) (zI zjE zcT))))
abbrev zh2:Rep Use:=(zI (zi .i64) (zI (zi .i64) (zI (zi .i64) zcT)))
theorem zu7:FOk zh2 0 (zi .i64) (λx=>x.1) (λx y=>(y,x.2.1,x.2.2.1,())):=FOk.off FOk.here rfl
theorem zu8:FOk zh2 1 (zi .i64) (λx=>x.2.1) (λx y=>(x.1,y,x.2.2.1,())):=FOk.off (FOk.there FOk.here) rfl
theorem zu9:FOk zh2 2 (zi .i64) (λx=>x.2.2.1) (λx y=>(x.1,x.2.1,y,())):=FOk.off (FOk.there (FOk.there FOk.here)) rfl
theorem zz0 {x:Day}:Cells zlQ x [.val (zb zbh) x.1.1,.val (zb zc4) x.1.2.1,.val (zb zc5) x.2.1.1,.val (zb (zi .i64)) x.2.1.2.1,.val (zb (zi .i64)) x.2.1.2.2.1,.val (zb zb7) x.2.2.1,.val (zi .i64) x.2.2.2.1,.val (zi .i64) x.2.2.2.2.1,.val (zb zat) x.2.2.2.2.2.1]:=(zj (zj (zl rfl) (zj (zl rfl) zaN rfl) rfl) (zj (zj (zl rfl) (zj (zl rfl) (zj (zl rfl) zaN rfl) rfl) rfl) (zj (zl rfl) (zj (zl rfl) (zj (zl rfl) (zj (zl rfl) zaN rfl) rfl) rfl) rfl) rfl) rfl)
theorem zb1 {x:zab}:Cells zC x [.val (zi .i64) x.1,.val (zi .i64) x.2.1,.val (zi .i64) x.2.2.1,.val (zi .i64) x.2.2.2.1,.val (zi .i64) x.2.2.2.2.1,.val (zi .i64) x.2.2.2.2.2.1]:=(zj (zl rfl) (zj (zl rfl) (zj (zl rfl) (zj (zl rfl) (zj (zl rfl) (zj (zl rfl) zaN rfl) rfl) rfl) rfl) rfl) rfl)
theorem zhM {x:ze}:Cells zy x [.val (zi .i64) x.1,.val (zi .i64) x.2.1]:=(zj (zl rfl) (zj (zl rfl) zaN rfl) rfl)
theorem zxs {x:Plan}:Cells zbG x [.val (zb zbh) x.1,.val (zb zc4) x.2.1]:=(zj (zl rfl) (zj (zl rfl) zaN rfl) rfl)
theorem zrc {x:Service}:Cells zdn x [.val (zb zc5) x.1,.val (zb (zi .i64)) x.2.1,.val (zb (zi .i64)) x.2.2.1]:=(zj (zl rfl) (zj (zl rfl) (zj (zl rfl) zaN rfl) rfl) rfl)
def zdP:List Int:=[0,1,2,2,3,3,3,3,4,4,4,4,4,4,4,4,5,5,5,5,5,5,5,5,5,5,5,5,5,5,5,5,6,6,6,6,6,6,6,6,6,6,6,6,6,6,6,6,6,6,6,6,6,6,6,6,6,6,6,6,6,6,6,6,7,7,7,7,7,7,7,7,7,7,7,7,7,7,7,7,7,7,7,7,7,7,7,7,7,7,7,7,7,7,7,7,7,7,7,7,7,7,7,7,7,7,7,7,7,7,7,7,7,7,7,7,7,7,7,7,7,7,7,7,7,7,7,7,8,8,8,8,8,8,8,8,8,8,8,8,8,8,8,8,8,8,8,8,8,8,8,8,8,8,8,8,8,8,8,8,8,8,8,8,8,8,8,8,8,8,8,8,8,8,8,8,8,8,8,8,8,8,8,8,8,8,8,8,8,8,8,8,8,8,8,8,8,8,8,8,8,8,8,8,8,8,8,8,8,8,8,8,8,8,8,8,8,8,8,8,8,8,8,8,8,8,8,8,8,8,8,8,8,8,8,8,8,8,8,8,8,8,8,8,8,8,8,8,8,8,8,8,8,8,8,8]
def zah (c:Int) (b:Int) (a:Int):Option Bool:=
Zb (cond (decide (c>=b)) (Ob (decide (c<=a))) (Ob Oc)) λc4=>
Ob c4
def zbD (a:Spot):Option Bool:=
Zb (Zb (zah a.1 (-10000000) 10000000) λy5=>
cond y5 (Zb (zah a.2.1 (-10000000) 10000000) λy7=>
Ob y7) (Ob Oc)) λc4=>
Ob c4
def zaQ (a:Int):Option Int:=
cond (a==1) (Ob 1) (cond (a==2) (Ob 2) (cond (a==3) (Ob 4) (cond (a==4) (cond (a==4) (Ob 3) (Ob 0)) (cond (a==5) (cond (a==5) (Ob 3) (Ob 0)) (cond (a==6) (Ob 3) (Ob 0))))))
def zdw (b:Plan) (a:Int):Option (List Spot):=
Zb (idx b.2.1 a) λx1=>
Zb (idx b.1 x1.1) λx3=>
Zb (zdi 16 ([x3.1]) x1.2.2.1) λx5=>
Zb (idx b.1 x1.2.1) λx7=>
Zb (zdi 16 x5 ([x7.1])) λx8=>
Ob x8
def ze6 (a:Int):Option Int:=
Zb (iter (σ:=(Int×Int)) (τ:=Int) (λs4=>
cond (decide (w64 (s4.2-s4.1)>1)) (Zb (zdj .i64 (w64 (s4.1+s4.2)) 2) λx7=>
cond (decide (w64 (x7*x7)<=a)) (Ob (.inl (x7,s4.2))) (Ob (.inl (s4.1,x7)))) (Ob (.inr s4.1))) big (0,30000000)) λt9=>
Ob t9
def zdx (b:Spot) (a:Spot):Option Int:=
Zb (ze6 (w64 (w64 (w64 (b.1-a.1)*w64 (b.1-a.1))+w64 (w64 (b.2.1-a.2.1)*w64 (b.2.1-a.2.1))))) λy1=>
Ob y1
def zfF (b:Plan) (a:zm):Option Int:=
cond a.2.1 (Zb (idx b.2.1 a.1) λx2=>
Ob x2.2.1) (Zb (idx b.2.1 a.1) λx3=>
Ob x3.1)
def zcG (a:Plan):Option Bool:=
Zb (Zb (zah (zo a.1) 1 300) λy5=>
cond (!y5) (Ob Od) (Zb (zah (zo a.2.1) 1 400) λy7=>
Ob (!y7))) λc4=>
cond c4 (Ob Oc) (Zb (iter (σ:=Int) (τ:=Unit⊕Bool) (λsc=>
cond (decide (sc<zo a.1)) (Zb (idx a.1 sc) λxa=>
cond (xa.2.1==5) (Zb (zah xa.2.2.2.1 1 2) λyb=>
Zb (zbD xa.1) λyc=>
cond (!yc) (Ob (.inr (.inr Oc))) (Zb (zaQ xa.2.1) λyd=>
cond (yd==0) (Ob (.inr (.inr Oc))) (Zb (zaQ xa.2.1) λye=>
cond ((zo xa.2.2.1)!=ye) (Ob (.inr (.inr Oc))) (cond (!yb) (Ob (.inr (.inr Oc))) (Ob (.inl (w64 (sc+1)))))))) (cond (xa.2.1==6) (Zb (zah xa.2.2.2.1 1 2) λyf=>
Zb (zbD xa.1) λyg=>
cond (!yg) (Ob (.inr (.inr Oc))) (Zb (zaQ xa.2.1) λyh=>
cond (yh==0) (Ob (.inr (.inr Oc))) (Zb (zaQ xa.2.1) λyi=>
cond ((zo xa.2.2.1)!=yi) (Ob (.inr (.inr Oc))) (cond (!yf) (Ob (.inr (.inr Oc))) (Ob (.inl (w64 (sc+1)))))))) (Zb (zbD xa.1) λyj=>
cond (!yj) (Ob (.inr (.inr Oc))) (Zb (zaQ xa.2.1) λyk=>
cond (yk==0) (Ob (.inr (.inr Oc))) (Zb (zaQ xa.2.1) λyl=>
cond ((zo xa.2.2.1)!=yl) (Ob (.inr (.inr Oc))) (cond (!(xa.2.2.2.1==0)) (Ob (.inr (.inr Oc))) (Ob (.inl (w64 (sc+1)))))))))) (Ob (.inr (.inl ())))) big 0) λta=>
alt (λbj=>Zb (iter (σ:=Int) (τ:=Unit⊕Bool) (λsd=>
cond (decide (sd<zo a.2.1)) (Zb (idx a.2.1 sd) λxb=>
Zb (zah xb.1 0 (w64 (zo a.1-1))) λym=>
cond (!ym) (Ob (.inr (.inr Oc))) (Zb (zah xb.2.1 0 (w64 (zo a.1-1))) λyn=>
cond (!yn) (Ob (.inr (.inr Oc))) (cond (decide (zo xb.2.2.1>30)) (Ob (.inr (.inr Oc))) (Zb (zah xb.2.2.2.1 1 50000) λyo=>
cond (!yo) (Ob (.inr (.inr Oc))) (Zb (zah xb.2.2.2.2.1 (-120) 120) λyp=>
cond (!yp) (Ob (.inr (.inr Oc))) (Zb (iter (σ:=Int) (τ:=Unit⊕Bool) (λsf=>
cond (decide (sf<zo xb.2.2.1)) (Zb (idx xb.2.2.1 sf) λxe=>
Zb (zbD xe) λyq=>
cond (!yq) (Ob (.inr (.inr Oc))) (Ob (.inl (w64 (sf+1))))) (Ob (.inr (.inl ())))) big 0) λtb=>
alt (λbk=>Zb (zdw a sd) λya=>
Zb (iter (σ:=Int) (τ:=Unit⊕Bool) (λse=>
cond (decide (se<zo ya)) (Zb (idx ya (w64 (se-1))) λxf=>
Zb (idx ya se) λxg=>
Zb (zdx xf xg) λyr=>
Zb (zah yr 1 1000000) λys=>
cond (!ys) (Ob (.inr (.inr Oc))) (Ob (.inl (w64 (se+1))))) (Ob (.inr (.inl ())))) big 1) λtc=>
alt (λbl=>Ob (.inl (w64 (sd+1)))) (λba=>Ob (.inr (.inr ba))) tc) (λbb=>Ob (.inr (.inr bb))) tb)))))) (Ob (.inr (.inl ())))) big 0) λtd=>
alt (λbm=>Zb (iter (σ:=(List zm×Int)) (τ:=List zm⊕Bool) (λsa=>
cond (decide (sa.2<zo a.1)) (Zb (iter (σ:=(List zm×Int)) (τ:=List zm⊕Bool) (λsb=>
Zb (idx a.1 sa.2) λxh=>
cond (decide (sb.2<zo xh.2.2.1)) (Zb (idx a.1 sa.2) λxi=>
Zb (idx xi.2.2.1 sb.2) λxd=>
Zb (zah xd.1 0 (w64 (zo a.2.1-1))) λyt=>
cond (!yt) (Ob (.inr (.inr Oc))) (Zb (zfF a xd) λyu=>
cond (yu !=sa.2) (Ob (.inr (.inr Oc))) (Zb (iter (σ:=Int) (τ:=Unit⊕Bool) (λsg=>
cond (decide (sg<zo sb.1)) (Zb (idx sb.1 sg) λxj=>
cond (xj==xd) (Ob (.inr (.inr Oc))) (Ob (.inl (w64 (sg+1))))) (Ob (.inr (.inl ())))) big 0) λte=>
alt (λbn=>Zb (zdi 16 sb.1 ([xd])) λxk=>
Ob (.inl (xk,w64 (sb.2+1)))) (λbc=>Ob (.inr (.inr bc))) te))) (Ob (.inr (.inl sb.1)))) big (sa.1,0)) λtf=>
alt (λbd=>Ob (.inl (bd,w64 (sa.2+1)))) (λbe=>Ob (.inr (.inr be))) tf) (Ob (.inr (.inl sa.1)))) big ([],0)) λtg=>
alt (λbf=>Ob (zo bf==w64 (2*zo a.2.1))) (λbg=>Ob bg) tg) (λbh=>Ob bh) td) (λbi=>Ob bi) ta)
def zaO (b:Plan) (a:Int):Option Int:=
Zb (zdw b a) λy1=>
Zb (iter (σ:=(Int×Int)) (τ:=Int) (λsa=>
cond (decide (sa.2<zo y1)) (Zb (idx y1 (w64 (sa.2-1))) λxa=>
Zb (idx y1 sa.2) λxb=>
Zb (zdx xa xb) λya=>
Ob (.inl (w64 (sa.1+ya),w64 (sa.2+1)))) (Ob (.inr sa.1))) big (0,1)) λta=>
Ob ta
def zb8 (c:Int) (b:Int) (a:Int):Option Bool:=
Zb (cond (decide (c>=b)) (Ob (decide (c<=a))) (Ob Oc)) λc4=>
Ob c4
def ze0 (b:Line) (a:Bool):Option Course:=
cond a (Ob b.2.1) (Ob b.1)
def ze7 (a:Plan) (b:zL):Option Bool:=
Zb (zah b.1 0 (w64 (zo a.2.1-1))) λy1=>
Ob y1
def zfR (a:zL):Option zm:=
Ob ((a.1,!a.2.1,()):zm)
def zdJ (a:zcy) (b:zm):Option Int:=
Zb (iter (σ:=Int) (τ:=Unit⊕Int) (λs5=>
cond (decide (s5<zo a.2.2.1)) (Zb (idx a.2.2.1 s5) λx9=>
cond (x9==b) (Ob (.inr (.inr s5))) (Ob (.inl (w64 (s5+1))))) (Ob (.inr (.inl ())))) big 0) λta=>
alt (λbb=>Ob (-1)) (λba=>Ob ba) ta
def zhN (a:zL):Option zm:=
Ob ((a.1,a.2.1,()):zm)
def ze8 (c:zcy) (b:Int) (a:Int):Option Bool:=
cond (c.2.1==2) (Ob (b !=a)) (cond (c.2.1==3) (Zb (cond (b !=a) (Zb (zq0 (w64 (b+a)) 2) λx7=>
Ob (x7==0)) (Ob Oc)) λc5=>
Ob c5) (cond (c.2.1==4) (Zb (cond (b==0) (cond (decide (a>0)) (Ob Od) (cond (decide (b>0)) (Ob (a==0)) (Ob Oc))) (cond (decide (b>0)) (Ob (a==0)) (Ob Oc))) λca=>
Ob ca) (cond (c.2.1==5) (Zb (cond (b==0) (cond (a==c.2.2.2.1) (Ob Od) (cond (decide (b>0)) (Ob (a==0)) (Ob Oc))) (cond (decide (b>0)) (Ob (a==0)) (Ob Oc))) λcc=>
Ob cc) (cond (c.2.1==6) (Zb (cond (b==0) (cond (a==c.2.2.2.1) (Ob Od) (cond (b==c.2.2.2.1) (Ob (a==0)) (Ob Oc))) (cond (b==c.2.2.2.1) (Ob (a==0)) (Ob Oc))) λcd=>
Ob cd) (Ob Oc)))))
def zcZ (a:Plan) (b:zL) (c:zL):Option Bool:=
Zb (zfR b) λy3=>
Zb (zfF a y3) λy4=>
Zb (idx a.1 y4) λx5=>
Zb (zfR b) λyc=>
Zb (zdJ x5 yc) λya=>
Zb (zhN c) λyd=>
Zb (zdJ x5 yd) λyb=>
Zb (cond (decide (ya>=0)) (cond (decide (yb>=0)) (Zb (ze8 x5 ya yb) λye=>
Ob ye) (Ob Oc)) (Ob Oc)) λca=>
Ob ca
def zeU (b:Plan) (a:List zL):Option Bool:=
Zb (iter (σ:=Int) (τ:=Unit⊕Bool) (λsa=>
cond (decide (sa<zo a)) (Zb (idx a sa) λxa=>
Zb (ze7 b xa) λya=>
cond (!ya) (Ob (.inr (.inr Oc))) (cond (decide (sa>0)) (Zb (idx a (w64 (sa-1))) λxb=>
Zb (idx a sa) λxd=>
Zb (zcZ b xb xd) λyb=>
cond (!yb) (Ob (.inr (.inr Oc))) (Ob (.inl (w64 (sa+1))))) (Ob (.inl (w64 (sa+1)))))) (Ob (.inr (.inl ())))) big 0) λta=>
alt (λbb=>Zb (zah (zo a) 1 2000) λyc=>
Ob yc) (λba=>Ob ba) ta
def zcm (b:Plan) (a:List zL):Option Int:=
Zb (iter (σ:=(Int×Int)) (τ:=Int) (λs6=>
cond (decide (s6.2<zo a)) (Zb (idx a s6.2) λxa=>
Zb (zaO b xa.1) λya=>
Ob (.inl (w64 (s6.1+ya),w64 (s6.2+1)))) (Ob (.inr s6.1))) big (0,0)) λta=>
Ob ta
def zby (c:Int) (b:Int) (a:Int):Option Bool:=
Zb (cond (decide (c>=b)) (Ob (decide (c<=a))) (Ob Oc)) λc4=>
Ob c4
def zet (a:Train):Option Bool:=
Zb (Zb (zby a.1 1000 80000) λya=>
cond (!ya) (Ob Od) (Zb (zby a.2.1 1 60000) λyb=>
cond (!yb) (Ob Od) (Zb (zby a.2.2.1 1 25000) λyc=>
cond (!yc) (Ob Od) (Zb (zby a.2.2.2.1 1 200000) λyd=>
cond (!yd) (Ob Od) (Zb (zby a.2.2.2.2.1 1 200000) λye=>
cond (!ye) (Ob Od) (Zb (zby a.2.2.2.2.2.1 1 2000000) λyf=>
cond (!yf) (Ob Od) (Zb (zby a.2.2.2.2.2.2.1 0 100000) λyg=>
cond (!yg) (Ob Od) (Zb (zby a.2.2.2.2.2.2.2.1 0 10000) λyh=>
cond (!yh) (Ob Od) (Zb (zby a.2.2.2.2.2.2.2.2.1 0 100) λyi=>
cond (!yi) (Ob Od) (Zb (zby (zo a.2.2.2.2.2.2.2.2.2.1) 1 8) λyj=>
Ob (!yj))))))))))) λca=>
cond ca (Ob Oc) (Zb (iter (σ:=Int) (τ:=Unit⊕Bool) (λsa=>
cond (decide (sa<zo a.2.2.2.2.2.2.2.2.2.1)) (Zb (idx a.2.2.2.2.2.2.2.2.2.1 sa) λxa=>
Zb (zby xa 1 1000) λyk=>
cond (!yk) (Ob (.inr (.inr Oc))) (Ob (.inl (w64 (sa+1))))) (Ob (.inr (.inl ())))) big 0) λta=>
alt (λbb=>Ob Od) (λba=>Ob ba) ta)
def zeu (d:Plan) (c:List zL) (e:Train) (b:Int) (a:List Int):Option Bool:=
Zb (Zb (zcG d) λya=>
cond (!ya) (Ob Od) (Zb (zeU d c) λyb=>
cond (!yb) (Ob Od) (Zb (zet e) λyc=>
cond (!yc) (Ob Od) (Zb (zby b 0 (w64 (zo e.2.2.2.2.2.2.2.2.2.1-1))) λyd=>
cond (!yd) (Ob Od) (Zb (zby (zo a) 2 100) λye=>
cond (!ye) (Ob Od) (Zb (idx a 0) λxa=>
Ob (decide (xa<e.2.1)))))))) λca=>
cond ca (Ob Oc) (Zb (iter (σ:=Int) (τ:=Unit⊕Bool) (λsa=>
cond (decide (sa<zo a)) (Zb (idx a sa) λxb=>
Zb (idx a (w64 (sa-1))) λxd=>
cond (decide (xb<=xd)) (Ob (.inr (.inr Oc))) (Ob (.inl (w64 (sa+1))))) (Ob (.inr (.inl ())))) big 1) λta=>
alt (λbb=>Zb (idx a (w64 (zo a-1))) λxe=>
Zb (zcm d c) λyf=>
Ob (decide (xe<=yf))) (λba=>Ob ba) ta)
def zT (b:Train) (a:ze):Option Int:=
Zb (zdj .i64 a.2.1 (w64 (10*b.1))) λx1=>
Ob x1
def zbf (a:zae) (b:Int):Option Int:=
Zb (iter (σ:=(Int×Int)) (τ:=Unit⊕Int) (λsa=>
cond (decide (sa.2<zo a.2.1)) (Zb (idx a.2.1 sa.2) λxa=>
Zb (zaO a.1 xa.1) λya=>
cond (decide (b<w64 (sa.1+ya))) (Zb (idx a.2.1 sa.2) λxb=>
cond xb.2.1 (Zb (idx a.2.1 sa.2) λxd=>
Zb (idx a.1.2.1 xd.1) λxe=>
Ob (.inr (.inr (w64 (0-xe.2.2.2.2.1))))) (Zb (idx a.2.1 sa.2) λxf=>
Zb (idx a.1.2.1 xf.1) λxg=>
Ob (.inr (.inr xg.2.2.2.2.1)))) (cond (sa.2==w64 (zo a.2.1-1)) (Zb (idx a.2.1 sa.2) λxh=>
cond xh.2.1 (Zb (idx a.2.1 sa.2) λxi=>
Zb (idx a.1.2.1 xi.1) λxj=>
Ob (.inr (.inr (w64 (0-xj.2.2.2.2.1))))) (Zb (idx a.2.1 sa.2) λxk=>
Zb (idx a.1.2.1 xk.1) λxl=>
Ob (.inr (.inr xl.2.2.2.2.1)))) (Ob (.inl (w64 (sa.1+ya),w64 (sa.2+1)))))) (Ob (.inr (.inl ())))) big (0,0)) λta=>
alt (λbb=>Ob 0) (λba=>Ob ba) ta
def zdU (c:Train) (b:Int) (a:Int) (d:Int) (e:Int):Option (Int×Int×Int×Int):=
Zb (idx c.2.2.2.2.2.2.2.2.2.1 e) λx3=>
Zb (zdj .i64 (w64 (w64 (x3*c.1)*981)) 100000) λx4=>
cond (decide (a>0)) (Zb (zdj .i64 (w64 (c.2.2.2.1*a)) 4) λx6=>
cond (decide (b>0)) (Zb (zdj .i64 (w64 (1000*c.2.2.2.2.2.1)) b) λx8=>
cond (decide (a<0)) (Zb (zdj .i64 (w64 (c.2.2.2.2.1*w64 (0-a))) 4) λxa=>
Zb (zdj .i64 (w64 (c.2.2.2.2.2.2.2.1*b)) 1000) λxb=>
Zb (zdj .i64 (w64 (w64 (c.1*d)*981)) 100000) λxd=>
Ob (min (min x6 x4) x8,min xa x4,w64 (c.2.2.2.2.2.2.1+xb),xd)) (Zb (zdj .i64 (w64 (c.2.2.2.2.2.2.2.1*b)) 1000) λxe=>
Zb (zdj .i64 (w64 (w64 (c.1*d)*981)) 100000) λxf=>
Ob (min (min x6 x4) x8,0,w64 (c.2.2.2.2.2.2.1+xe),xf))) (cond (decide (a<0)) (Zb (zdj .i64 (w64 (c.2.2.2.2.1*w64 (0-a))) 4) λxg=>
Zb (zdj .i64 (w64 (c.2.2.2.2.2.2.2.1*b)) 1000) λxh=>
Zb (zdj .i64 (w64 (w64 (c.1*d)*981)) 100000) λxi=>
Ob (min x6 x4,min xg x4,w64 (c.2.2.2.2.2.2.1+xh),xi)) (Zb (zdj .i64 (w64 (c.2.2.2.2.2.2.2.1*b)) 1000) λxj=>
Zb (zdj .i64 (w64 (w64 (c.1*d)*981)) 100000) λxk=>
Ob (min x6 x4,0,w64 (c.2.2.2.2.2.2.1+xj),xk)))) (cond (decide (a<0)) (Zb (zdj .i64 (w64 (c.2.2.2.2.1*w64 (0-a))) 4) λxl=>
Zb (zdj .i64 (w64 (c.2.2.2.2.2.2.2.1*b)) 1000) λxm=>
Zb (zdj .i64 (w64 (w64 (c.1*d)*981)) 100000) λxn=>
Ob (0,min xl x4,w64 (c.2.2.2.2.2.2.1+xm),xn)) (Zb (zdj .i64 (w64 (c.2.2.2.2.2.2.2.1*b)) 1000) λxo=>
Zb (zdj .i64 (w64 (w64 (c.1*d)*981)) 100000) λxp=>
Ob (0,0,w64 (c.2.2.2.2.2.2.1+xo),xp)))
def zaR (e:Train) (a:ze) (b:Int) (d:Int) (c:Int):Option (ze×zab×Bool):=
Zb (zdj .i64 a.1 e.1) λx5=>
Zb (zdU e x5 b d c) λy6=>
Zb (cond (decide (w64 (a.1+w64 (100*w64 (w64 (w64 (y6.1-y6.2.1)-y6.2.2.1)-y6.2.2.2)))<0)) (Ob Od) (cond (a.1==0) (Ob (decide (w64 (w64 (w64 (y6.1-y6.2.1)-y6.2.2.1)-y6.2.2.2)<=0))) (Ob Oc))) λca=>
cond ca (Ob (((0,w64 (a.2.1+0),()):ze),(0,0,0,0,0,w64 (a.1*a.1),()),decide (0<=w64 (25000*e.1)))) (Ob (((w64 (a.1+w64 (100*w64 (w64 (w64 (y6.1-y6.2.1)-y6.2.2.1)-y6.2.2.2))),w64 (a.2.1+w64 (a.1+w64 (100*w64 (w64 (w64 (y6.1-y6.2.1)-y6.2.2.1)-y6.2.2.2)))),()):ze),((w64 (w64 (200*y6.1)*w64 (a.1+w64 (100*w64 (w64 (w64 (y6.1-y6.2.1)-y6.2.2.1)-y6.2.2.2)))),w64 (w64 (200*y6.2.1)*w64 (a.1+w64 (100*w64 (w64 (w64 (y6.1-y6.2.1)-y6.2.2.1)-y6.2.2.2)))),w64 (w64 (200*y6.2.2.1)*w64 (a.1+w64 (100*w64 (w64 (w64 (y6.1-y6.2.1)-y6.2.2.1)-y6.2.2.2)))),w64 (w64 (200*y6.2.2.2)*w64 (a.1+w64 (100*w64 (w64 (w64 (y6.1-y6.2.1)-y6.2.2.1)-y6.2.2.2)))),w64 (w64 (10000*w64 (w64 (w64 (y6.1-y6.2.1)-y6.2.2.1)-y6.2.2.2))*w64 (w64 (w64 (y6.1-y6.2.1)-y6.2.2.1)-y6.2.2.2)),0,()):zab),decide (w64 (a.1+w64 (100*w64 (w64 (w64 (y6.1-y6.2.1)-y6.2.2.1)-y6.2.2.2)))<=w64 (25000*e.1))))
def zdV (d:Plan) (c:List zL) (a:Int) (b:Int):Option (List Cover):=
Zb (iter (σ:=(List Cover×Int×Int)) (τ:=List Cover) (λsa=>
cond (decide (sa.2.2<zo c)) (Zb (idx c sa.2.2) λxa=>
Zb (zaO d xa.1) λya=>
cond (decide (w64 (max (w64 (a-b)) sa.2.1-sa.2.1)>=w64 (min a (w64 (sa.2.1+ya))-sa.2.1))) (Ob (.inl (sa.1,w64 (sa.2.1+ya),w64 (sa.2.2+1)))) (Zb (idx c sa.2.2) λxb=>
cond xb.2.1 (Zb (idx c sa.2.2) λxd=>
Zb (zdi 24 sa.1 ([((xd.1,w64 (ya-w64 (min a (w64 (sa.2.1+ya))-sa.2.1)),w64 (ya-w64 (max (w64 (a-b)) sa.2.1-sa.2.1)),()):Cover)])) λxe=>
Ob (.inl (xe,w64 (sa.2.1+ya),w64 (sa.2.2+1)))) (Zb (idx c sa.2.2) λxf=>
Zb (zdi 24 sa.1 ([((xf.1,w64 (max (w64 (a-b)) sa.2.1-sa.2.1),w64 (min a (w64 (sa.2.1+ya))-sa.2.1),()):Cover)])) λxg=>
Ob (.inl (xg,w64 (sa.2.1+ya),w64 (sa.2.2+1)))))) (Ob (.inr sa.1))) big ([],0,0)) λta=>
Ob ta
def zdK (c:Plan) (b:List zL) (d:Train) (a:Int):Option Int:=
Zb (zdV c b a d.2.1) λy1=>
Zb (iter (σ:=(Int×Int)) (τ:=Int) (λs8=>
cond (decide (s8.2<zo y1)) (Zb (idx y1 s8.2) λxa=>
Zb (idx c.2.1 xa.1) λxb=>
Ob (.inl (min s8.1 xb.2.2.2.1,w64 (s8.2+1)))) (Ob (.inr s8.1))) big (d.2.2.1,0)) λta=>
Ob ta
def zec (a:zae) (b:ze):Option Bool:=
Zb (iter (σ:=(Int×Int×Int)) (τ:=(Bool×Int×Int)) (λsa=>
Zb (zT a.2.2.1 (sa.2.1,sa.2.2,())) λyb=>
cond (decide (yb>a.2.2.2.2.1)) (Ob (.inr (Oc,sa.2.1,sa.2.2))) (Zb (zdj .i64 sa.2.1 a.2.2.1.1) λxa=>
Zb (zT a.2.2.1 (sa.2.1,sa.2.2,())) λyc=>
Zb (zdK a.1 a.2.1 a.2.2.1 yc) λyd=>
cond (decide (xa>yd)) (Ob (.inr (Oc,sa.2.1,sa.2.2))) (cond (sa.2.1==0) (Ob (.inr (Od,sa.2.1,sa.2.2))) (cond (sa.1==36000) (Ob (.inr (Oc,sa.2.1,sa.2.2))) (Zb (zT a.2.2.1 (sa.2.1,sa.2.2,())) λye=>
Zb (zbf a ye) λyf=>
Zb (zaR a.2.2.1 (sa.2.1,sa.2.2,()) (-4) yf a.2.2.2.1) λya=>
cond (!ya.2.2) (Ob (.inr (Oc,ya.1.1,ya.1.2.1))) (Ob (.inl (w64 (sa.1+1),ya.1.1,ya.1.2.1)))))))) big (0,b.1,b.2.1)) λta=>
Ob ta.1
def zcH (a:zae) (b:ze):Option (Int×Bool):=
Zb (iter (σ:=Int) (τ:=Unit⊕(Int×Bool)) (λsa=>
cond (decide (sa>=(-4))) (Zb (zT a.2.2.1 b) λyb=>
Zb (zbf a yb) λyc=>
Zb (zaR a.2.2.1 b sa yc a.2.2.2.1) λya=>
cond ya.2.2 (Zb (zec a ya.1) λyd=>
cond yd (Ob (.inr (.inr (sa,Od)))) (Ob (.inl (w64 (sa-1))))) (Ob (.inl (w64 (sa-1))))) (Ob (.inr (.inl ())))) big 4) λta=>
alt (λbb=>Ob (0,Oc)) (λba=>Ob (ba.1,ba.2)) ta
def zbW (d:Train) (e:ze) (a:Int) (c:Int) (b:Int):Option (Int×Int):=
Zb (zdj .i64 e.1 d.1) λx3=>
Zb (zdU d x3 a c b) λy4=>
Zb (zaR d e a c b) λy5=>
Zb (zdj .i64 (w64 (w64 (w64 (y4.1*y5.1.1)+w64 (1000*d.1))-1)) (w64 (1000*d.1))) λxa=>
Zb (zdj .i64 (w64 (w64 (y4.2.1*y5.1.1)*d.2.2.2.2.2.2.2.2.1)) (w64 (100000*d.1))) λxb=>
Ob (xa,xb)
def zeV (b:zab) (a:zab):Option zab:=
Ob ((w64 (b.1+a.1),w64 (b.2.1+a.2.1),w64 (b.2.2.1+a.2.2.1),w64 (b.2.2.2.1+a.2.2.2.1),w64 (b.2.2.2.2.1+a.2.2.2.2.1),w64 (b.2.2.2.2.2.1+a.2.2.2.2.2.1),()):zab)
def zev (e:Plan) (d:List zL) (c:Train) (a:Int) (b:List Int):Option (List Leg×Bool):=
Zb (idx b 0) λx3=>
Zb (iter (σ:=(List Leg×Int×Int×Int)) (τ:=(List Leg×Int×Int)⊕(List Leg×Bool)) (λsb=>
cond (decide (sb.2.1<zo b)) (Zb (idx b sb.2.1) λxb=>
Zb (iter (σ:=(Int×Int×Int×Int×Int×Int×Int×Int×Int×Int×Int×Int)) (τ:=(Train×ze×Int×List Int×Int×Int×Int×Int×Bool×Int×Int×Int×Int×Int×Int×Int×Int×Int×Int×Int)⊕(List Leg×Bool×Int×Int×Int×Int×Int×Int×Int×Int×Int×Int×Int)) (λsa=>
cond (decide (sa.2.2.2.2.2.2.2.2.2.2.1>0)) (cond (sa.1==36000) (Ob (.inr (.inr ([],Oc,sa.2.1,sa.2.2.1,sa.2.2.2.1,sa.2.2.2.2.1,sa.2.2.2.2.2.1,sa.2.2.2.2.2.2.1,sa.2.2.2.2.2.2.2.1,sa.2.2.2.2.2.2.2.2.1,sa.2.2.2.2.2.2.2.2.2.1,sa.2.2.2.2.2.2.2.2.2.2.1,sa.2.2.2.2.2.2.2.2.2.2.2)))) (cond (decide (sa.2.2.2.2.2.2.2.2.2.2.2>10000000000000000)) (Ob (.inr (.inr ([],Oc,sa.2.1,sa.2.2.1,sa.2.2.2.1,sa.2.2.2.2.1,sa.2.2.2.2.2.1,sa.2.2.2.2.2.2.1,sa.2.2.2.2.2.2.2.1,sa.2.2.2.2.2.2.2.2.1,sa.2.2.2.2.2.2.2.2.2.1,sa.2.2.2.2.2.2.2.2.2.2.1,sa.2.2.2.2.2.2.2.2.2.2.2)))) (Zb (zcH ((e,d,c,a,xb,()):zae) (sa.2.2.2.2.2.2.2.2.2.2.1,sa.2.2.2.2.2.2.2.2.2.2.2,())) λyc=>
cond (!yc.2) (Ob (.inr (.inr ([],Oc,sa.2.1,sa.2.2.1,sa.2.2.2.1,sa.2.2.2.2.1,sa.2.2.2.2.2.1,sa.2.2.2.2.2.2.1,sa.2.2.2.2.2.2.2.1,sa.2.2.2.2.2.2.2.2.1,sa.2.2.2.2.2.2.2.2.2.1,sa.2.2.2.2.2.2.2.2.2.2.1,sa.2.2.2.2.2.2.2.2.2.2.2)))) (Zb (zT c (sa.2.2.2.2.2.2.2.2.2.2.1,sa.2.2.2.2.2.2.2.2.2.2.2,())) λyl=>
Zb (zbf ((e,d,c,a,xb,()):zae) yl) λyh=>
Zb (zbW c (sa.2.2.2.2.2.2.2.2.2.2.1,sa.2.2.2.2.2.2.2.2.2.2.2,()) yc.1 yh a) λyi=>
Zb (zaR c (sa.2.2.2.2.2.2.2.2.2.2.1,sa.2.2.2.2.2.2.2.2.2.2.2,()) yc.1 yh a) λyd=>
Zb (zeV (sa.2.2.1,sa.2.2.2.1,sa.2.2.2.2.1,sa.2.2.2.2.2.1,sa.2.2.2.2.2.2.1,sa.2.2.2.2.2.2.2.1,()) yd.2.1) λya=>
Ob (.inl (w64 (sa.1+1),w64 (sa.2.1+100),ya.1,ya.2.1,ya.2.2.1,ya.2.2.2.1,ya.2.2.2.2.1,ya.2.2.2.2.2.1,max sa.2.2.2.2.2.2.2.2.1 yi.1,max sa.2.2.2.2.2.2.2.2.2.1 yi.2,yd.1.1,yd.1.2.1)))))) (Zb (zT c (sa.2.2.2.2.2.2.2.2.2.2.1,sa.2.2.2.2.2.2.2.2.2.2.2,())) λye=>
Zb (idx b sb.2.1) λxa=>
cond (decide (ye<w64 (xa-1000))) (cond (sa.1==36000) (Ob (.inr (.inr ([],Oc,sa.2.1,sa.2.2.1,sa.2.2.2.1,sa.2.2.2.2.1,sa.2.2.2.2.2.1,sa.2.2.2.2.2.2.1,sa.2.2.2.2.2.2.2.1,sa.2.2.2.2.2.2.2.2.1,sa.2.2.2.2.2.2.2.2.2.1,sa.2.2.2.2.2.2.2.2.2.2.1,sa.2.2.2.2.2.2.2.2.2.2.2)))) (cond (decide (sa.2.2.2.2.2.2.2.2.2.2.2>10000000000000000)) (Ob (.inr (.inr ([],Oc,sa.2.1,sa.2.2.1,sa.2.2.2.1,sa.2.2.2.2.1,sa.2.2.2.2.2.1,sa.2.2.2.2.2.2.1,sa.2.2.2.2.2.2.2.1,sa.2.2.2.2.2.2.2.2.1,sa.2.2.2.2.2.2.2.2.2.1,sa.2.2.2.2.2.2.2.2.2.2.1,sa.2.2.2.2.2.2.2.2.2.2.2)))) (Zb (zcH ((e,d,c,a,xb,()):zae) (sa.2.2.2.2.2.2.2.2.2.2.1,sa.2.2.2.2.2.2.2.2.2.2.2,())) λyf=>
cond (!yf.2) (Ob (.inr (.inr ([],Oc,sa.2.1,sa.2.2.1,sa.2.2.2.1,sa.2.2.2.2.1,sa.2.2.2.2.2.1,sa.2.2.2.2.2.2.1,sa.2.2.2.2.2.2.2.1,sa.2.2.2.2.2.2.2.2.1,sa.2.2.2.2.2.2.2.2.2.1,sa.2.2.2.2.2.2.2.2.2.2.1,sa.2.2.2.2.2.2.2.2.2.2.2)))) (Zb (zT c (sa.2.2.2.2.2.2.2.2.2.2.1,sa.2.2.2.2.2.2.2.2.2.2.2,())) λym=>
Zb (zbf ((e,d,c,a,xb,()):zae) ym) λyj=>
Zb (zbW c (sa.2.2.2.2.2.2.2.2.2.2.1,sa.2.2.2.2.2.2.2.2.2.2.2,()) yf.1 yj a) λyk=>
Zb (zaR c (sa.2.2.2.2.2.2.2.2.2.2.1,sa.2.2.2.2.2.2.2.2.2.2.2,()) yf.1 yj a) λyg=>
Zb (zeV (sa.2.2.1,sa.2.2.2.1,sa.2.2.2.2.1,sa.2.2.2.2.2.1,sa.2.2.2.2.2.2.1,sa.2.2.2.2.2.2.2.1,()) yg.2.1) λyb=>
Ob (.inl (w64 (sa.1+1),w64 (sa.2.1+100),yb.1,yb.2.1,yb.2.2.1,yb.2.2.2.1,yb.2.2.2.2.1,yb.2.2.2.2.2.1,max sa.2.2.2.2.2.2.2.2.1 yk.1,max sa.2.2.2.2.2.2.2.2.2.1 yk.2,yg.1.1,yg.1.2.1)))))) (Ob (.inr (.inl (c,(sa.2.2.2.2.2.2.2.2.2.2.1,sa.2.2.2.2.2.2.2.2.2.2.2,()),ye,b,sb.2.1,xa,xa,w64 (xa-1000),decide (ye<w64 (xa-1000)),sa.2.1,sa.2.2.1,sa.2.2.2.1,sa.2.2.2.2.1,sa.2.2.2.2.2.1,sa.2.2.2.2.2.2.1,sa.2.2.2.2.2.2.2.1,sa.2.2.2.2.2.2.2.2.1,sa.2.2.2.2.2.2.2.2.2.1,sa.2.2.2.2.2.2.2.2.2.2.1,sa.2.2.2.2.2.2.2.2.2.2.2)))))) big (0,0,0,0,0,0,0,0,0,0,sb.2.2.1,sb.2.2.2)) λta=>
alt (λba=>Zb (zT c (ba.2.2.2.2.2.2.2.2.2.2.2.2.2.2.2.2.2.2.1,ba.2.2.2.2.2.2.2.2.2.2.2.2.2.2.2.2.2.2.2,())) λyn=>
Zb (zdi 80 sb.1 ([(ba.2.2.2.2.2.2.2.2.2.1,yn,(ba.2.2.2.2.2.2.2.2.2.2.1,ba.2.2.2.2.2.2.2.2.2.2.2.1,ba.2.2.2.2.2.2.2.2.2.2.2.2.1,ba.2.2.2.2.2.2.2.2.2.2.2.2.2.1,ba.2.2.2.2.2.2.2.2.2.2.2.2.2.2.1,ba.2.2.2.2.2.2.2.2.2.2.2.2.2.2.2.1,()),ba.2.2.2.2.2.2.2.2.2.2.2.2.2.2.2.2.1,ba.2.2.2.2.2.2.2.2.2.2.2.2.2.2.2.2.2.1,())])) λxd=>
Ob (.inl (xd,w64 (sb.2.1+1),ba.2.2.2.2.2.2.2.2.2.2.2.2.2.2.2.2.2.2.1,ba.2.2.2.2.2.2.2.2.2.2.2.2.2.2.2.2.2.2.2))) (λbb=>Ob (.inr (.inr (bb.1,bb.2.1)))) ta) (Ob (.inr (.inl (sb.1,sb.2.2.1,sb.2.2.2))))) big ([],1,0,w64 (w64 (10*c.1)*x3))) λtb=>
alt (λbc=>Ob (bc.1,decide (bc.2.2<=10000000000000000))) (λbd=>Ob (bd.1,bd.2)) tb
def zfS (d:Plan) (c:List zL) (e:Train) (a:Int) (b:List Int):Option (List Int×Bool):=
Zb (zeu d c e a b) λy1=>
cond (!y1) (Ob ([],Oc)) (Zb (zev d c e a b) λy3=>
Zb (iter (σ:=(List Int×Int)) (τ:=List Int) (λs9=>
cond (decide (s9.2<zo y3.1)) (Zb (idx y3.1 s9.2) λxa=>
Zb (zdi 8 s9.1 ([xa.1])) λxb=>
Ob (.inl (xb,w64 (s9.2+1)))) (Ob (.inr s9.1))) big ([],0)) λta=>
Ob (ta,y3.2))
def zc9 (b:Plan) (c:Line) (a:Bool):Option (List Int×Bool):=
Zb (ze0 c a) λy1=>
Zb (Zb (zeU b y1.1) λyb=>
cond (!yb) (Ob Od) (Zb (zb8 (zo y1.2.1) 2 60) λyc=>
cond (!yc) (Ob Od) (cond ((zo y1.2.2.1)!=zo y1.2.1) (Ob Od) (Zb (idx y1.2.2.1 0) λxa=>
cond (xa !=0) (Ob Od) (Zb (idx y1.2.2.1 (w64 (zo y1.2.2.1-1))) λxb=>
Ob (xb !=0)))))) λca=>
cond ca (Ob ([],Oc)) (Zb (iter (σ:=Int) (τ:=Unit⊕(List Int×Bool)) (λsa=>
cond (decide (sa<zo y1.2.1)) (Zb (idx y1.2.1 sa) λxd=>
Zb (zcm b y1.1) λyd=>
Zb (zb8 xd 1 yd) λye=>
cond (!ye) (Ob (.inr (.inr ([],Oc)))) (Zb (idx y1.2.2.1 sa) λxe=>
Zb (zb8 xe 0 600) λyf=>
cond (!yf) (Ob (.inr (.inr ([],Oc)))) (cond (decide (sa>0)) (Zb (idx y1.2.1 sa) λxf=>
Zb (idx y1.2.1 (w64 (sa-1))) λxg=>
cond (decide (xf<=xg)) (Ob (.inr (.inr ([],Oc)))) (Ob (.inl (w64 (sa+1))))) (Ob (.inl (w64 (sa+1))))))) (Ob (.inr (.inl ())))) big 0) λta=>
alt (λbb=>Zb (zfS b y1.1 c.2.2.1 c.2.2.2.1 y1.2.1) λya=>
cond (!ya.2) (Ob ([],Oc)) (Zb (iter (σ:=(List Int×Int)) (τ:=List Int) (λsb=>
cond (decide (sb.2<zo ya.1)) (Zb (idx ya.1 sb.2) λxh=>
Zb (zdj .i64 (w64 (xh+999)) 1000) λxi=>
Zb (zdi 8 sb.1 ([max 1 xi])) λxj=>
Ob (.inl (xj,w64 (sb.2+1)))) (Ob (.inr sb.1))) big ([],0)) λtb=>
Ob (tb,Od))) (λba=>Ob (ba.1,ba.2)) ta)
def ze9 (b:Plan) (c:Line) (a:Bool):Option (List Int):=
Zb (zc9 b c a) λy1=>
Ob y1.1
def zbs (c:Plan) (b:Line) (a:Bool):Option (List Int):=
Zb (ze0 b a) λy1=>
Zb (ze9 c b a) λy3=>
Zb (iter (σ:=(List Int×Int)) (τ:=List Int) (λsa=>
cond (decide (sa.2<zo y3)) (Zb (idx sa.1 sa.2) λxa=>
Zb (idx y3 sa.2) λxb=>
Zb (idx y1.2.2.1 (w64 (sa.2+1))) λxd=>
Zb (zdi 8 sa.1 ([w64 (w64 (xa+xb)+xd)])) λxe=>
Ob (.inl (xe,w64 (sa.2+1)))) (Ob (.inr sa.1))) big ([0],0)) λta=>
Ob ta
def zed (b:Plan) (a:Line):Option Bool:=
Zb (zb8 a.2.2.2.2.1 0 3600) λy1=>
cond (!y1) (Ob Oc) (Zb (iter (σ:=Int) (τ:=Unit⊕Bool) (λsa=>
cond (decide (sa<2)) (Zb (zc9 b a (sa==1)) λyb=>
cond (!yb.2) (Ob (.inr (.inr Oc))) (Zb (zbs b a (sa==1)) λya=>
Zb (idx ya (w64 (zo ya-1))) λxa=>
cond (decide (xa>50000)) (Ob (.inr (.inr Oc))) (Ob (.inl (w64 (sa+1)))))) (Ob (.inr (.inl ())))) big 0) λta=>
alt (λbb=>Ob Od) (λba=>Ob ba) ta)
def zc0 (b:Plan) (a:Service):Option Bool:=
Zb (Zb (zcG b) λy7=>
cond (!y7) (Ob Od) (Zb (zb8 (zo a.1) 1 20) λy9=>
cond (!y9) (Ob Od) (cond ((zo a.2.1)!=zo a.1) (Ob Od) (Ob ((zo a.2.2.1)!=zo a.1))))) λc6=>
cond c6 (Ob Oc) (Zb (iter (σ:=Int) (τ:=Unit⊕Bool) (λsa=>
cond (decide (sa<zo a.1)) (Zb (idx a.1 sa) λxa=>
Zb (zed b xa) λya=>
cond (!ya) (Ob (.inr (.inr Oc))) (Zb (idx a.2.1 sa) λxb=>
Zb (zb8 xb 30 7200) λyb=>
cond (!yb) (Ob (.inr (.inr Oc))) (Zb (idx a.2.2.1 sa) λxd=>
Zb (idx a.2.1 sa) λxe=>
Zb (zb8 xd 0 (w64 (xe-1))) λyc=>
cond (!yc) (Ob (.inr (.inr Oc))) (Ob (.inl (w64 (sa+1))))))) (Ob (.inr (.inl ())))) big 0) λta=>
alt (λbb=>Ob Od) (λba=>Ob ba) ta)
def zhj (a:Plan) (b:Service):Option Bool:=
Zb (cond (decide (zo a.1>8)) (Ob Od) (cond (decide (zo a.2.1>8)) (Ob Od) (cond (decide (zo b.1>2)) (Ob Od) (Zb (zcG a) λy9=>
Ob (!y9))))) λc5=>
cond c5 (Ob Oc) (Zb (iter (σ:=(Int×Int)) (τ:=Int) (λsa=>
cond (decide (sa.2<zo a.2.1)) (Zb (zaO a sa.2) λya=>
Ob (.inl (w64 (sa.1+ya),w64 (sa.2+1)))) (Ob (.inr sa.1))) big (0,0)) λta=>
Zb (iter (σ:=Int) (τ:=Unit⊕Bool) (λsb=>
cond (decide (sb<zo b.1)) (Zb (idx b.1 sb) λxa=>
cond (decide (zo xa.1.2.1>6)) (Ob (.inr (.inr Oc))) (cond (decide (zo xa.2.1.2.1>6)) (Ob (.inr (.inr Oc))) (cond (decide (zo xa.1.1>8)) (Ob (.inr (.inr Oc))) (cond (decide (zo xa.2.1.1>8)) (Ob (.inr (.inr Oc))) (cond (decide (xa.2.2.1.2.2.2.2.1<200)) (Ob (.inr (.inr Oc))) (cond (decide (xa.2.2.1.2.2.2.1<200)) (Ob (.inr (.inr Oc))) (cond (decide (xa.2.2.1.1>4000)) (Ob (.inr (.inr Oc))) (Ob (.inl (w64 (sb+1))))))))))) (Ob (.inr (.inl ())))) big 0) λtb=>
alt (λbb=>Zb (cond (decide (ta<=150000)) (Zb (zc0 a b) λyb=>
Ob yb) (Ob Oc)) λca=>
Ob ca) (λba=>Ob ba) tb)
def zcQ (c:Day) (a:Int) (b:Bool):Option Course:=
cond b (Zb (idx c.2.1.1 a) λx3=>
Ob x3.2.1) (Zb (idx c.2.1.1 a) λx4=>
Ob x4.1)
def zee (c:Int) (b:Int) (a:Int):Option Bool:=
Zb (cond (decide (c>=b)) (Ob (decide (c<=a))) (Ob Oc)) λc4=>
Ob c4
def zew (b:Plan) (a:List Works):Option Bool:=
Zb (iter (σ:=Int) (τ:=Unit⊕Bool) (λsa=>
cond (decide (sa<zo a)) (Zb (idx a sa) λxa=>
Zb (zb8 xa.1 0 (w64 (zo b.2.1-1))) λya=>
cond (!ya) (Ob (.inr (.inr Oc))) (Zb (idx a sa) λxb=>
Zb (idx a sa) λxd=>
Zb (zb8 xb.2.1 0 xd.2.2.1) λyb=>
cond (!yb) (Ob (.inr (.inr Oc))) (Zb (idx a sa) λxe=>
cond (decide (xe.2.2.1>200000)) (Ob (.inr (.inr Oc))) (Ob (.inl (w64 (sa+1))))))) (Ob (.inr (.inl ())))) big 0) λta=>
alt (λbb=>Ob (decide (zo a<=100))) (λba=>Ob ba) ta
def zfs (a:Day):Option Bool:=
Zb (Zb (zc0 a.1 a.2.1) λy9=>
cond (!y9) (Ob Od) (Zb (zew a.1 a.2.2.1) λya=>
cond (!ya) (Ob Od) (Zb (zee a.2.2.2.1 0 a.2.2.2.2.1) λyb=>
cond (!yb) (Ob Od) (cond (decide (a.2.2.2.2.1>200000)) (Ob Od) (Ob (decide (zo a.2.2.2.2.2.1>60))))))) λc8=>
cond c8 (Ob Oc) (Zb (iter (σ:=Int) (τ:=Unit⊕Bool) (λsa=>
cond (decide (sa<zo a.2.2.2.2.2.1)) (Zb (idx a.2.2.2.2.2.1 sa) λxa=>
Zb (zee xa.1 0 (w64 (zo a.2.1.1-1))) λyc=>
cond (!yc) (Ob (.inr (.inr Oc))) (Zb (zee xa.2.2.2.2.1 1 3600) λyd=>
cond (!yd) (Ob (.inr (.inr Oc))) (Zb (zcQ a xa.1 xa.2.1) λye=>
Zb (zee xa.2.2.1 1 (w64 (zo ye.2.1-2))) λyf=>
cond (!yf) (Ob (.inr (.inr Oc))) (Zb (zcQ a xa.1 (!xa.2.1)) λyg=>
Zb (zee xa.2.2.2.1 1 (w64 (zo yg.2.1-2))) λyh=>
cond (!yh) (Ob (.inr (.inr Oc))) (Ob (.inl (w64 (sa+1)))))))) (Ob (.inr (.inl ())))) big 0) λta=>
alt (λbb=>Ob Od) (λba=>Ob ba) ta)
def zdy (a:Day):Option Bool:=
Zb (Zb (zhj a.1 a.2.1) λy8=>
cond y8 (cond (decide (zo a.2.2.2.2.2.1<=4)) (cond (decide (zo a.2.2.1<=6)) (Zb (zfs a) λya=>
cond ya (Ob (decide (w64 (a.2.2.2.2.1-a.2.2.2.1)<=600))) (Ob Oc)) (Ob Oc)) (Ob Oc)) (Ob Oc)) λc7=>
Ob c7
def z5 (c:Int) (b:Int) (a:Int):Option Bool:=
Zb (cond (decide (c>=b)) (Ob (decide (c<=a))) (Ob Oc)) λc4=>
Ob c4
def zcn (a:Line):Option (List Course):=
Ob ([a.1,a.2.1]:List Course)
def zV (c:Int) (b:Int) (a:Int):Option Bool:=
Zb (cond (decide (c>=b)) (Ob (decide (c<=a))) (Ob Oc)) λc4=>
Ob c4
def zaz (a:List zcy) (b:(zcy->Option Bool)):Option Int:=
Zb (iter (σ:=Int) (τ:=Unit⊕Int) (λs5=>
cond (decide (s5<zo a)) (Zb (idx a s5) λx8=>
Zb (b x8) λy9=>
cond y9 (Ob (.inr (.inr s5))) (Ob (.inl (w64 (s5+1))))) (Ob (.inr (.inl ())))) big 0) λta=>
alt (λbb=>Ob (-1)) (λba=>Ob ba) ta
def zam (a:List zcy) (b:(zcy->Option Bool)):Option Bool:=
Zb (zaz a b) λy1=>
Ob (decide (y1>=0))
def zda (a:Spot):Option Bool:=
Zb (Zb (zV a.1 (-10000000) 10000000) λy5=>
cond y5 (Zb (zV a.2.1 (-10000000) 10000000) λy7=>
Ob y7) (Ob Oc)) λc4=>
Ob c4
def zft :Option (List Int):=
Ob (List.replicate 1 0++([1,2,4,3,3,3]:List Int))
def zfa (a:zcy):Option Bool:=
Zb (cond (decide (a.2.1<1)) (Ob Od) (cond (decide (a.2.1>6)) (Ob Od) (Zb (zda a.1) λya=>
cond (!ya) (Ob Od) (Zb zft λyb=>
Zb (idx yb a.2.1) λxa=>
Ob ((zo a.2.2.1)!=xa))))) λca=>
cond ca (Ob Oc) (Zb (cond (a.2.1==5) (Ob Od) (Ob (a.2.1==6))) λcc=>
cond cc (Zb (zV a.2.2.2.1 1 2) λyc=>
Ob yc) (Ob (a.2.2.2.1==0)))
def zfT (a:zcy):Option Bool:=
Zb (zfa a) λy1=>
Ob (!y1)
def zaA (a:List Rail) (b:(Rail->Option Bool)):Option Int:=
Zb (iter (σ:=Int) (τ:=Unit⊕Int) (λs5=>
cond (decide (s5<zo a)) (Zb (idx a s5) λx8=>
Zb (b x8) λy9=>
cond y9 (Ob (.inr (.inr s5))) (Ob (.inl (w64 (s5+1))))) (Ob (.inr (.inl ())))) big 0) λta=>
alt (λbb=>Ob (-1)) (λba=>Ob ba) ta
def zan (a:List Rail) (b:(Rail->Option Bool)):Option Bool:=
Zb (zaA a b) λy1=>
Ob (decide (y1>=0))
def zav (a:Int):Option (List Spot):=
cond (decide (a<0)) Oe (cond (decide (w64 (a-w64 (0-0))>0)) (Zb (zo7 16 (w64 (a-w64 (0-0))) ((0,0,()):Spot)) λx3=>
Zb (slz x3) λx5=>
Ob ([]:List Spot)) (Ob ([])))
def zao (a:List (List Spot)):Option (List Spot):=
Zb (iter (σ:=(Int×Int)) (τ:=Int) (λs4=>
cond (decide (s4.2<zo a)) (Zb (idx a s4.2) λx7=>
cond (decide (w64 (s4.1+zo x7)<0)) Oe (Ob (.inl (w64 (s4.1+zo x7),w64 (s4.2+1))))) (Ob (.inr s4.1))) big (0,0)) λt9=>
Zb (zav t9) λya=>
Zb (iter (σ:=(List Spot×Int)) (τ:=List Spot) (λsa=>
cond (decide (sa.2<zo a)) (Zb (idx a sa.2) λxa=>
Zb (zdi 16 sa.1 xa) λxb=>
Ob (.inl (xb,w64 (sa.2+1)))) (Ob (.inr sa.1))) big (ya,0)) λta=>
Ob ta
def zef (b:Plan) (a:Rail):Option (List Spot):=
Zb (idx b.1 a.1) λx5=>
Zb (idx b.1 a.2.1) λx6=>
Zb (zao ([[x5.1],a.2.2.1,[x6.1]])) λy7=>
Ob y7
def zfb (a:Int):Option Int:=
Zb (FloatKind.f64.format.sqrt (FloatKind.f64.nearest a)) λx1=>
Zb (f2i x1) λx2=>
Zb (iter (σ:=Int) (τ:=Int) (λs4=>
cond (decide (w64 (s4*s4)>a)) (Ob (.inl (w64 (s4-1)))) (Ob (.inr s4))) big x2) λt7=>
Zb (iter (σ:=Int) (τ:=Int) (λsa=>
cond (decide (w64 (w64 (sa+1)*w64 (sa+1))<=a)) (Ob (.inl (w64 (sa+1)))) (Ob (.inr sa))) big t7) λta=>
Ob ta
def zdb (b:Spot) (a:Spot):Option Int:=
Zb (zfb (w64 (w64 (w64 (b.1-a.1)*w64 (b.1-a.1))+w64 (w64 (b.2.1-a.2.1)*w64 (b.2.1-a.2.1))))) λy1=>
Ob y1
def zfc (b:Plan) (a:Rail):Option Bool:=
Zb (Zb (zV a.1 0 (w64 (zo b.1-1))) λyb=>
cond (!yb) (Ob Od) (Zb (zV a.2.1 0 (w64 (zo b.1-1))) λyc=>
cond (!yc) (Ob Od) (cond (decide (zo a.2.2.1>30)) (Ob Od) (Zb (zV a.2.2.2.1 1 50000) λyd=>
cond (!yd) (Ob Od) (Zb (zV a.2.2.2.2.1 (-120) 120) λye=>
Ob (!ye)))))) λc9=>
cond c9 (Ob Oc) (Zb (zef b a) λya=>
Zb (iter (σ:=Int) (τ:=Unit⊕Bool) (λsa=>
cond (decide (sa<zo ya)) (Zb (idx ya sa) λxa=>
Zb (zda xa) λyf=>
cond (!yf) (Ob (.inr (.inr Oc))) (cond (decide (sa>0)) (Zb (idx ya (w64 (sa-1))) λxb=>
Zb (zdb xb xa) λyg=>
Zb (zV yg 1 1000000) λyh=>
cond (!yh) (Ob (.inr (.inr Oc))) (Ob (.inl (w64 (sa+1))))) (Ob (.inl (w64 (sa+1)))))) (Ob (.inr (.inl ())))) big 0) λta=>
alt (λbb=>Ob Od) (λba=>Ob ba) ta)
def zex (b:Rail) (a:Plan):Option Bool:=
Zb (zfc a b) λy1=>
Ob (!y1)
def zcR (b:Plan) (a:zm):Option Int:=
cond a.2.1 (Zb (idx b.2.1 a.1) λx2=>
Ob x2.2.1) (Zb (idx b.2.1 a.1) λx3=>
Ob x3.1)
def zdL (a:Plan):Option Int:=
Zb (Zb (zV (zo a.1) 1 300) λy5=>
cond (!y5) (Ob Od) (Zb (zV (zo a.2.1) 1 400) λy7=>
Ob (!y7))) λc4=>
cond c4 (Ob 2) (Zb (Zb (zam a.1 (λx=>zfT x)) λya=>
cond ya (Ob Od) (Zb (zan a.2.1 (λx=>zex x a)) λyb=>
Ob yb)) λca=>
cond ca (Ob 2) (Zb (iter (σ:=(Int×List (zm×Bool))) (τ:=List (zm×Bool)⊕Int) (λsb=>
cond (decide (sb.1<zo a.1)) (Zb (idx a.1 sb.1) λxb=>
Zb (iter (σ:=(Int×List (zm×Bool))) (τ:=List (zm×Bool)⊕(Int×List (zm×Bool))) (λsa=>
cond (decide (sa.1<zo xb.2.2.1)) (Zb (idx xb.2.2.1 sa.1) λxa=>
Zb (zV xa.1 0 (w64 (zo a.2.1-1))) λyc=>
cond (!yc) (Ob (.inr (.inr (2,sa.2)))) (cond ((mget sa.2 xa).getD Oc) (Ob (.inr (.inr (2,sa.2)))) (Zb (zcR a xa) λyd=>
cond (yd !=sb.1) (Ob (.inr (.inr (2,sa.2)))) (Ob (.inl (w64 (sa.1+1),mset sa.2 xa Od)))))) (Ob (.inr (.inl sa.2)))) big (0,sb.2)) λta=>
alt (λba=>Ob (.inl (w64 (sb.1+1),ba))) (λbb=>Ob (.inr (.inr bb.1))) ta) (Ob (.inr (.inl sb.2)))) big (0,([]:List (zm×Bool)))) λtb=>
alt (λbc=>Zb (zu5 bc) λxd=>
cond (xd !=w64 (2*zo a.2.1)) (Ob 2) (Ob 0)) (λbd=>Ob bd) tb))
def zeg (a:Plan):Option (Option zbr×Bool):=
Zb (zdL a) λy1=>
cond (y1 !=0) (Ob ((Oe:Option zbr),Oc)) (Zb (iter (σ:=(Int×List Int)) (τ:=List Int) (λsc=>
cond (decide (sc.1<zo a.2.1)) (Zb (idx a.2.1 sc.1) λxb=>
Zb (zef a xb) λya=>
Zb (iter (σ:=(Int×Int)) (τ:=Int) (λsa=>
cond (decide (sa.2<zo ya)) (Zb (idx ya (w64 (sa.2-1))) λxd=>
Zb (idx ya sa.2) λxe=>
Zb (zdb xd xe) λyb=>
Ob (.inl (w64 (sa.1+yb),w64 (sa.2+1)))) (Ob (.inr sa.1))) big (0,1)) λta=>
Zb (zdi 8 sc.2 ([ta])) λxf=>
Ob (.inl (w64 (sc.1+1),xf))) (Ob (.inr sc.2))) big (0,[])) λtb=>
Zb (iter (σ:=(Int×List (zm×Int))) (τ:=List (zm×Int)) (λsd=>
cond (decide (sd.1<zo a.1)) (Zb (idx a.1 sd.1) λxa=>
Zb (iter (σ:=(Int×List (zm×Int))) (τ:=List (zm×Int)) (λsb=>
cond (decide (sb.1<zo xa.2.2.1)) (Zb (idx xa.2.2.1 sb.1) λxg=>
Ob (.inl (w64 (sb.1+1),mset sb.2 xg sb.1))) (Ob (.inr sb.2))) big (0,sd.2)) λtc=>
Ob (.inl (w64 (sd.1+1),tc))) (Ob (.inr sd.2))) big (0,([]:List (zm×Int)))) λtd=>
Ob (Ob ((a.1,a.2.1,()),tb,td,()),Od))
def zbR (a:zbr) (b:zL):Option Bool:=
Zb (zV b.1 0 (w64 (zo a.1.2.1-1))) λy2=>
Ob y2
def zbb (b:Plan) (a:Int):Option (Int×Int):=
Zb (zeg b) λy1=>
Zb (cond (!y1.2) (Ob Od) (Zb y1.1 λp7=>
Zb (zbR p7 ((a,Oc,()):zL)) λy8=>
Ob (!y8))) λc5=>
cond c5 (Ob (0,2)) (Zb y1.1 λpa=>
Zb (idx pa.2.1 a) λxa=>
Ob (xa,0))
def zey (a:zL):Option zm:=
Ob ((a.1,!a.2.1,()):zm)
def zfU (c:zaG) (a:Int) (b:Int):Option Bool:=
Ob Oc
def zfd (c:zaG) (a:Int) (b:Int):Option Bool:=
Ob (a !=b)
def zb2 (c:zaG) (a:Int) (b:Int):Option Bool:=
Zb (cond (a !=b) (Zb (zq0 (w64 (a+b)) 2) λx6=>
Ob (x6==0)) (Ob Oc)) λc4=>
Ob c4
def zcr (c:zaG) (a:Int) (b:Int):Option Bool:=
Zb (cond (a !=b) (cond (a==0) (Ob Od) (Ob (b==0))) (Ob Oc)) λc4=>
Ob c4
def zbL (c:zaG) (a:Int) (b:Int):Option Bool:=
Zb (cond (a !=0) (cond (b==0) (Ob Od) (cond (a==0) (Ob (b==c.1.2.2.2.1)) (Ob Oc))) (cond (a==0) (Ob (b==c.1.2.2.2.1)) (Ob Oc))) λc5=>
Ob c5
def zbM (c:zaG) (a:Int) (b:Int):Option Bool:=
Zb (cond (a==0) (cond (b==c.1.2.2.2.1) (Ob Od) (cond (a==c.1.2.2.2.1) (Ob (b==0)) (Ob Oc))) (cond (a==c.1.2.2.2.1) (Ob (b==0)) (Ob Oc))) λc5=>
Ob c5
def zbz (b:zaG) (a:Int) (c:Int):Option Bool:=
Zb (idx (List.replicate 1 (λ_=>Oe)++([(λx=>zfU x.1 x.2.1 x.2.2),(λx=>zfd x.1 x.2.1 x.2.2),(λx=>zb2 x.1 x.2.1 x.2.2),(λx=>zcr x.1 x.2.1 x.2.2),(λx=>zbL x.1 x.2.1 x.2.2),(λx=>zbM x.1 x.2.1 x.2.2)]:List ((zaG×Int×Int)->Option Bool))) b.1.2.1) λx4=>
Zb (x4 (b,a,c)) λy5=>
Ob y5
def zdW (a:zL):Option Int:=
cond a.2.1 (Ob (w64 (w64 (2*a.1)+1))) (Ob (w64 (2*a.1)))
def zbt (a:Int):Option Bool:=
Ob (a !=a)
def zbc (a:Int) (b:Int):Option Bool:=
Zb (Zb (zbt a) λy6=>
cond y6 (Zb (zbt b) λy8=>
cond (!y8) (Ob Od) (Ob (decide (a<b)))) (Ob (decide (a<b)))) λc5=>
Ob c5
def z9   (a:List Int) (b:Int) (c:Int):Option (List Int):=
Zb (iter (σ:=(Int×List Int)) (τ:=List Int) (λsb=>
cond (decide (sb.1<c)) (Zb (iter (σ:=(Int×List Int)) (τ:=List Int) (λsa=>
cond (decide (sa.1>b)) (Zb (idx sa.2 sa.1) λxb=>
Zb (idx sa.2 (w64 (sa.1-1))) λxd=>
Zb (zbc xb xd) λya=>
cond ya (Zb (idx sa.2 (w64 (sa.1-1))) λxa=>
Zb (idx sa.2 sa.1) λxe=>
Zb (idx sa.2 sa.1) λxf=>
Zb (idx ((sa.2).set (Int.toNat sa.1) xa) (w64 (sa.1-1))) λxg=>
Ob (.inl (w64 (sa.1-1),((sa.2).set (Int.toNat sa.1) xa).set (Int.toNat (w64 (sa.1-1))) xe))) (Ob (.inr sa.2))) (Ob (.inr sa.2))) big (sb.1,sb.2)) λta=>
Ob (.inl (w64 (sb.1+1),ta))) (Ob (.inr sb.2))) big (w64 (b+1),a)) λtb=>
Ob tb
def zeW (a:Int):Option Int:=
cond (decide (a>=4294967296)) (Zb (zjD .u64 a 32) λx2=>
cond (decide (x2>=65536)) (Zb (zjD .u64 x2 16) λx4=>
cond (decide (x4>=256)) (Zb (zjD .u64 x4 8) λx6=>
Zb (idx zdP (IntKind.u8.wrap x6)) λx7=>
Ob (w64 (w64 (w64 (32+16)+8)+w64 x7))) (Zb (idx zdP (IntKind.u8.wrap x4)) λx8=>
Ob (w64 (w64 (32+16)+w64 x8)))) (cond (decide (x2>=256)) (Zb (zjD .u64 x2 8) λxb=>
Zb (idx zdP (IntKind.u8.wrap xb)) λxd=>
Ob (w64 (w64 (32+8)+w64 xd))) (Zb (idx zdP (IntKind.u8.wrap x2)) λxe=>
Ob (w64 (32+w64 xe))))) (cond (decide (a>=65536)) (Zb (zjD .u64 a 16) λxa=>
cond (decide (xa>=256)) (Zb (zjD .u64 xa 8) λxf=>
Zb (idx zdP (IntKind.u8.wrap xf)) λxg=>
Ob (w64 (w64 (w64 (0+16)+8)+w64 xg))) (Zb (idx zdP (IntKind.u8.wrap xa)) λxh=>
Ob (w64 (w64 (0+16)+w64 xh)))) (cond (decide (a>=256)) (Zb (zjD .u64 a 8) λxi=>
Zb (idx zdP (IntKind.u8.wrap xi)) λxj=>
Ob (w64 (w64 (0+8)+w64 xj))) (Zb (idx zdP (IntKind.u8.wrap a)) λxk=>
Ob (w64 (0+w64 xk)))))
def zez (a:Int):Option Int:=
Zb (zeW a) λy2=>
Ob y2
def zbu   (b:List Int) (d:Int) (c:Int) (a:Int):Option (List Int):=
Zb (iter (σ:=(Int×Int×Int×Bool×Bool×List Int)) (τ:=List Int) (λsa=>
cond (decide (w64 (sa.2.1-sa.1)<=12)) (Zb (z9 sa.2.2.2.2.2 sa.1 sa.2.1) λya=>
Ob (.inr ya)) (cond (sa.2.2.1==0) Oe (cond (!sa.2.2.2.1) Oe Oe))) big (d,c,a,Od,Od,b)) λta=>
Ob ta
def zb3   (a:List Int):Option (List Int):=
Zb (zez (IntKind.u64.wrap (zo a))) λy1=>
Zb (zbu a 0 (zo a) y1) λy2=>
Ob y2
def zfe (a:Int):Option zL:=
Zb (zdj .i64 a 2) λx2=>
Zb (zq0 a 2) λx3=>
Ob ((x2,(x3==1),()):zL)
def zbN {σ τ:Type} (step:σ->zL->Option (σ⊕τ)) (s_:σ) (a:zbr) (b:zL):Option (σ⊕τ):=
Zb (zey b) λy5=>
Zb (zcR a.1 y5) λy6=>
Zb (idx a.1.1 y6) λx7=>
Zb (iter (σ:=(List Int×Int)) (τ:=List Int) (λsa=>
cond (decide (sa.2<zo x7.2.2.1)) (Zb (idx x7.2.2.1 sa.2) λxa=>
Zb (zey b) λyc=>
Zb (zbz ((x7,()):zaG) ((mget a.2.2.1 yc).getD 0) sa.2) λyd=>
cond yd (Zb (zdW ((xa.1,xa.2.1,()):zL)) λye=>
Zb (zdi 8 sa.1 ([ye])) λxb=>
Ob (.inl (xb,w64 (sa.2+1)))) (Ob (.inl (sa.1,w64 (sa.2+1))))) (Ob (.inr sa.1))) big ([],0)) λta=>
Zb (zb3 ta) λyb=>
Zb (iter (σ:=(Int×(σ⊕τ))) (τ:=(σ⊕τ)⊕(σ⊕τ)) (λsb=>
cond (decide (sb.1<zo yb)) (Zb (idx yb sb.1) λxd=>
Zb (zfe xd) λyf=>
Zb (goL sb.2) λsc=>
Zb (step sc yf) λya=>
cond (!(ya).isLeft) (Ob (.inr (.inr ya))) (Ob (.inl (w64 (sb.1+1),ya)))) (Ob (.inr (.inl sb.2)))) big (0,(.inl s_))) λtb=>
alt (λba=>Ob ba) (λbb=>Ob bb) tb
def zcV (a:zbr) (b:zL):Option (zbr×zL):=
Ob (a,b)
def za1 (a:zbr) (b:zL) (c:zL):Option Bool:=
Zb (zcV a b) λy2=>
Zb (zbN (σ:=Bool) (τ:=Bool) (λs8 x3=>
cond (x3==c) (Ob (.inr Od)) (Ob (.inl s8))) Oc y2.1 y2.2) λta=>
alt (λbb=>Ob Oc) (λba=>Ob ba) ta
def zcs (b:zbr) (a:List zL):Option Bool:=
Zb (iter (σ:=Int) (τ:=Unit⊕Bool) (λsa=>
cond (decide (sa<zo a)) (Zb (idx a sa) λxa=>
Zb (zbR b xa) λya=>
cond (!ya) (Ob (.inr (.inr Oc))) (cond (decide (sa>0)) (Zb (idx a (w64 (sa-1))) λxb=>
Zb (za1 b xb xa) λyb=>
cond (!yb) (Ob (.inr (.inr Oc))) (Ob (.inl (w64 (sa+1))))) (Ob (.inl (w64 (sa+1)))))) (Ob (.inr (.inl ())))) big 0) λta=>
alt (λbb=>Zb (zV (zo a) 1 2000) λyc=>
Ob yc) (λba=>Ob ba) ta
def zbd (b:zbr) (a:List zL):Option Int:=
Zb (iter (σ:=(Int×Int)) (τ:=Int) (λs6=>
cond (decide (s6.2<zo a)) (Zb (idx a s6.2) λx9=>
Zb (idx b.2.1 x9.1) λxa=>
Ob (.inl (w64 (s6.1+xa),w64 (s6.2+1)))) (Ob (.inr s6.1))) big (0,0)) λta=>
Ob ta
def zco (b:Plan) (a:List zL):Option (Int×Int):=
Zb (zeg b) λy1=>
Zb (cond (!y1.2) (Ob Od) (Zb y1.1 λp7=>
Zb (zcs p7 a) λy8=>
Ob (!y8))) λc5=>
cond c5 (Ob (0,2)) (Zb y1.1 λpa=>
Zb (zbd pa a) λya=>
Ob (ya,0))
def zW (c:Int) (b:Int) (a:Int):Option Bool:=
Zb (cond (decide (c>=b)) (Ob (decide (c<=a))) (Ob Oc)) λc4=>
Ob c4
def zbI (a:List Int) (b:(Int->Option Bool)):Option Int:=
Zb (iter (σ:=Int) (τ:=Unit⊕Int) (λs5=>
cond (decide (s5<zo a)) (Zb (idx a s5) λx8=>
Zb (b x8) λy9=>
cond y9 (Ob (.inr (.inr s5))) (Ob (.inl (w64 (s5+1))))) (Ob (.inr (.inl ())))) big 0) λta=>
alt (λbb=>Ob (-1)) (λba=>Ob ba) ta
def zbg (a:List Int) (b:(Int->Option Bool)):Option Bool:=
Zb (zbI a b) λy1=>
Ob (decide (y1>=0))
def zfp (a:Int):Option Bool:=
Zb (zW a 1 1000) λy1=>
Ob (!y1)
def zdX (a:Train):Option Int:=
Zb (Zb (zW a.1 1000 80000) λya=>
cond (!ya) (Ob Od) (Zb (zW a.2.1 1 60000) λyb=>
cond (!yb) (Ob Od) (Zb (zW a.2.2.1 1 25000) λyc=>
cond (!yc) (Ob Od) (Zb (zW a.2.2.2.1 1 200000) λyd=>
cond (!yd) (Ob Od) (Zb (zW a.2.2.2.2.1 1 200000) λye=>
cond (!ye) (Ob Od) (Zb (zW a.2.2.2.2.2.1 1 2000000) λyf=>
cond (!yf) (Ob Od) (Zb (zW a.2.2.2.2.2.2.1 0 100000) λyg=>
cond (!yg) (Ob Od) (Zb (zW a.2.2.2.2.2.2.2.1 0 10000) λyh=>
cond (!yh) (Ob Od) (Zb (zW a.2.2.2.2.2.2.2.2.1 0 100) λyi=>
Ob (!yi)))))))))) λca=>
cond ca (Ob 2) (Zb (Zb (zW (zo a.2.2.2.2.2.2.2.2.2.1) 1 8) λyj=>
cond (!yj) (Ob Od) (Zb (zbg a.2.2.2.2.2.2.2.2.2.1 (λx=>zfp x)) λyk=>
Ob yk)) λcc=>
cond cc (Ob 2) (Ob 0))
def zdz (b:Train) (a:Int):Option (Option zau×Bool):=
Zb (Zb (zdX b) λy5=>
cond (y5 !=0) (Ob Od) (Zb (zW a 0 (w64 (zo b.2.2.2.2.2.2.2.2.2.1-1))) λy7=>
Ob (!y7))) λc4=>
cond c4 (Ob ((Oe:Option zau),Oc)) (Ob (Ob ((b,a,()):zau),Od))
def zdY (d:Plan) (b:List zL) (e:Train) (c:Int) (a:List Int):Option (Option zaF×Bool):=
Zb (zdz e c) λy1=>
Zb (zco d b) λy2=>
Zb (cond (!y1.2) (Ob Od) (cond (y2.2 !=0) (Ob Od) (Zb (zW (zo a) 2 100) λyb=>
cond (!yb) (Ob Od) (Zb (idx a 0) λxd=>
cond (decide (xd<e.2.1)) (Ob Od) (Zb (idx a (w64 (zo a-1))) λxe=>
Ob (decide (xe>y2.1))))))) λca=>
cond ca (Ob ((Oe:Option zaF),Oc)) (Zb (iter (σ:=Int) (τ:=Unit⊕(Option zaF×Bool)) (λsb=>
cond (decide (sb<zo a)) (Zb (idx a sb) λxf=>
Zb (idx a (w64 (sb-1))) λxg=>
cond (decide (xf<=xg)) (Ob (.inr (.inr ((Oe:Option zaF),Oc)))) (Ob (.inl (w64 (sb+1))))) (Ob (.inr (.inl ())))) big 1) λta=>
alt (λbd=>Zb y1.1 λpa=>
Zb (iter (σ:=(Int×Int×List Int×List Int×List Int)) (τ:=(List Int×List Int×List Int)⊕(Option zaF×Bool×List Int×List Int×List Int)) (λsa=>
cond (decide (sa.2.1<zo b)) (Zb (idx b sa.2.1) λxb=>
Zb (zbb d xb.1) λya=>
cond (ya.2 !=0) (Ob (.inr (.inr ((Oe:Option zaF),Oc,sa.2.2.2.2,sa.2.2.2.1,sa.2.2.1)))) (Zb (idx d.2.1 xb.1) λxa=>
cond xb.2.1 (Zb (zdi 8 sa.2.2.2.2 ([w64 (sa.1+ya.1)])) λxh=>
Zb (zdi 8 sa.2.2.2.1 ([xa.2.2.2.1])) λxi=>
Zb (zdi 8 sa.2.2.1 ([w64 (0-xa.2.2.2.2.1)])) λxj=>
Ob (.inl (w64 (sa.1+ya.1),w64 (sa.2.1+1),xj,xi,xh))) (Zb (zdi 8 sa.2.2.2.2 ([w64 (sa.1+ya.1)])) λxk=>
Zb (zdi 8 sa.2.2.2.1 ([xa.2.2.2.1])) λxl=>
Zb (zdi 8 sa.2.2.1 ([xa.2.2.2.2.1])) λxm=>
Ob (.inl (w64 (sa.1+ya.1),w64 (sa.2.1+1),xm,xl,xk))))) (Ob (.inr (.inl (sa.2.2.2.2,sa.2.2.2.1,sa.2.2.1))))) big (0,0,[],[],[])) λtb=>
alt (λba=>Ob (Ob (pa,b,ba.1,ba.2.1,ba.2.2,a,()),Od)) (λbb=>Ob (bb.1,bb.2.1)) tb) (λbc=>Ob (bc.1,bc.2)) ta)
def z6 (b:zau) (a:ze):Option Int:=
Zb (zdj .i64 a.2.1 (w64 (10*b.1.1))) λx2=>
Ob x2
def zdo (a:Int):Option Bool:=
Ob (a !=a)
def zO (b:List Int) (a:Int):Option (Int×Bool):=
Zb (iter (σ:=(Int×Int)) (τ:=Int) (λs6=>
cond (decide (s6.1<s6.2)) (Zb (zjD .u64 (IntKind.u64.wrap (w64 (s6.1+s6.2))) 1) λx9=>
Zb (idx b (w64 x9)) λxa=>
Zb (zbc xa a) λya=>
cond ya (Ob (.inl (w64 (w64 x9+1),s6.2))) (Ob (.inl (s6.1,w64 x9)))) (Ob (.inr s6.1))) big (0,zo b)) λta=>
Zb (cond (decide (ta<zo b)) (Zb (idx b ta) λxb=>
cond (xb==a) (Ob (ta,Od)) (Zb (idx b ta) λxd=>
Zb (zdo xd) λyb=>
cond yb (Zb (zdo a) λyc=>
Ob (ta,yc)) (Ob (ta,Oc)))) (Ob (ta,Oc))) λca=>
Ob (ca.1,ca.2)
def zaU (a:zaF) (b:ze):Option Int:=
Zb (z6 a.1 b) λy2=>
Zb (zO a.2.2.1 (w64 (y2+1))) λy3=>
Zb (idx a.2.2.2.2.1 (min y3.1 (w64 (zo a.2.2.2.2.1-1)))) λx5=>
Ob x5
def zbv (a:zau):Option Int:=
Zb (idx a.1.2.2.2.2.2.2.2.2.2.1 a.2.1) λx3=>
Zb (zdj .i64 (w64 (w64 (x3*a.1.1)*981)) 100000) λx4=>
Ob x4
def zbi (b:zau) (d:Int) (a:Int) (c:Int):Option Int:=
cond (decide (a<=0)) (Ob 0) (Zb (zdj .i64 (w64 (b.1.2.2.2.1*a)) 4) λx4=>
Zb (zbv b) λy5=>
cond (decide (d>0)) (Zb (zdj .i64 (w64 (1000*b.1.2.2.2.2.2.1)) d) λx7=>
Ob (min (min x4 y5) x7)) (Ob (min x4 y5)))
def za6 (b:zau) (d:Int) (a:Int) (c:Int):Option Int:=
cond (decide (a>=0)) (Ob 0) (Zb (zdj .i64 (w64 (b.1.2.2.2.2.1*w64 (0-a))) 4) λx4=>
Zb (zbv b) λy5=>
Ob (min x4 y5))
def zbS (b:zau) (d:Int) (a:Int) (c:Int):Option Int:=
Zb (zdj .i64 (w64 (b.1.2.2.2.2.2.2.2.1*d)) 1000) λx2=>
Ob (w64 (b.1.2.2.2.2.2.2.1+x2))
def zbT (c:zau) (d:Int) (b:Int) (a:Int):Option Int:=
Zb (zdj .i64 (w64 (w64 (c.1.1*a)*981)) 100000) λx1=>
Ob x1
def zcI (c:zau) (d:Int) (a:Int) (b:Int):Option (List Int):=
Zb (iter (σ:=(Int×List Int)) (τ:=List Int) (λsa=>
cond (decide (sa.1<4)) (Zb (idx ([(λx=>zbi c x.1 x.2.1 x.2.2),(λx=>za6 c x.1 x.2.1 x.2.2),(λx=>zbS c x.1 x.2.1 x.2.2),(λx=>zbT c x.1 x.2.1 x.2.2)]:List ((Int×Int×Int)->Option Int)) sa.1) λxa=>
Zb (xa (d,a,b)) λya=>
Zb (idx sa.2 sa.1) λxb=>
Ob (.inl (w64 (sa.1+1),(sa.2).set (Int.toNat sa.1) ya))) (Ob (.inr sa.2))) big (0,List.replicate 4 (0:Int))) λta=>
Ob ta
def zbA (b:zau) (a:ze):Option Int:=
Zb (zdj .i64 a.1 b.1.1) λx2=>
Ob x2
def zaI (b:zau) (a:ze) (c:Int) (d:Int):Option (zbo×Bool):=
Zb (zbA b a) λy2=>
Zb (zcI b y2 c d) λy3=>
Zb (idx y3 0) λx5=>
Zb (idx y3 1) λx6=>
Zb (idx y3 2) λx7=>
Zb (idx y3 3) λx8=>
Zb (cond (decide (w64 (a.1+w64 (100*w64 (w64 (w64 (x5-x6)-x7)-x8)))<0)) (Ob Od) (cond (a.1==0) (Ob (decide (w64 (w64 (w64 (x5-x6)-x7)-x8)<=0))) (Ob Oc))) λca=>
cond ca (Zb (idx y3 0) λxa=>
Zb (idx y3 1) λxb=>
Zb (idx y3 2) λxd=>
Zb (idx y3 3) λxe=>
Zb (idx y3 0) λxf=>
Zb (zdj .i64 (w64 (w64 (w64 (xf*0)+w64 (1000*b.1.1))-1)) (w64 (1000*b.1.1))) λxg=>
Zb (idx y3 1) λxh=>
Zb (zdj .i64 (w64 (w64 (xh*0)*b.1.2.2.2.2.2.2.2.2.1)) (w64 (100000*b.1.1))) λxi=>
Ob (((0,w64 (a.2.1+0),()),(w64 (w64 (200*xa)*0),w64 (w64 (200*xb)*0),w64 (w64 (200*xd)*0),w64 (w64 (200*xe)*0),0,w64 (a.1*a.1),()),xg,xi,()),decide (0<=w64 (25000*b.1.1)))) (Zb (idx y3 0) λxj=>
Zb (idx y3 1) λxk=>
Zb (idx y3 2) λxl=>
Zb (idx y3 3) λxm=>
Zb (idx y3 0) λxn=>
Zb (zdj .i64 (w64 (w64 (w64 (xn*w64 (a.1+w64 (100*w64 (w64 (w64 (x5-x6)-x7)-x8))))+w64 (1000*b.1.1))-1)) (w64 (1000*b.1.1))) λxo=>
Zb (idx y3 1) λxp=>
Zb (zdj .i64 (w64 (w64 (xp*w64 (a.1+w64 (100*w64 (w64 (w64 (x5-x6)-x7)-x8))))*b.1.2.2.2.2.2.2.2.2.1)) (w64 (100000*b.1.1))) λxq=>
Ob (((w64 (a.1+w64 (100*w64 (w64 (w64 (x5-x6)-x7)-x8))),w64 (a.2.1+w64 (a.1+w64 (100*w64 (w64 (w64 (x5-x6)-x7)-x8)))),()),(w64 (w64 (200*xj)*w64 (a.1+w64 (100*w64 (w64 (w64 (x5-x6)-x7)-x8)))),w64 (w64 (200*xk)*w64 (a.1+w64 (100*w64 (w64 (w64 (x5-x6)-x7)-x8)))),w64 (w64 (200*xl)*w64 (a.1+w64 (100*w64 (w64 (w64 (x5-x6)-x7)-x8)))),w64 (w64 (200*xm)*w64 (a.1+w64 (100*w64 (w64 (w64 (x5-x6)-x7)-x8)))),w64 (w64 (10000*w64 (w64 (w64 (x5-x6)-x7)-x8))*w64 (w64 (w64 (x5-x6)-x7)-x8)),0,()),xo,xq,()),decide (w64 (a.1+w64 (100*w64 (w64 (w64 (x5-x6)-x7)-x8)))<=w64 (25000*b.1.1))))
def zcJ (a:zaF) (b:ze):Option Int:=
Zb (z6 a.1 b) λy2=>
Zb (zO a.2.2.1 (w64 (w64 (y2-a.1.1.2.1)+1))) λy3=>
Zb (iter (σ:=(Int×Int)) (τ:=Int) (λs8=>
cond (decide (s8.2<zo a.2.2.1)) (Zb (idx a.2.2.2.1 s8.2) λxa=>
Zb (idx a.2.2.1 s8.2) λxb=>
cond (decide (xb>=y2)) (Ob (.inr (min s8.1 xa))) (Ob (.inl (min s8.1 xa,w64 (s8.2+1))))) (Ob (.inr s8.1))) big (a.1.1.2.2.1,y3.1)) λta=>
Ob ta
def zbU (b:zaF) (c:ze) (a:Int):Option Bool:=
Zb (Zb (z6 b.1 c) λya=>
cond (decide (ya<=a)) (Zb (zbA b.1 c) λyb=>
Zb (zcJ b c) λyc=>
Ob (decide (yb<=yc))) (Ob Oc)) λc9=>
Ob c9
def zbe {σ τ:Type} (step:σ->ze->Option (σ⊕τ)) (s_:σ) (a:ze) (b:zau) (c:(ze->Option Int)):Option ((σ⊕τ)×ze):=
Zb (iter (σ:=(Int×(σ⊕τ)×Int×Int)) (τ:=((σ⊕τ)×Int×Int)⊕((σ⊕τ)×Int×Int)) (λsa=>
cond (decide (sa.1<36000)) (cond (sa.2.2.1==0) (Ob (.inr (.inr (sa.2.1,sa.2.2.1,sa.2.2.2)))) (Zb (c (sa.2.2.1,sa.2.2.2,())) λyc=>
Zb (zaI b (sa.2.2.1,sa.2.2.2,()) (-4) yc) λya=>
cond (!ya.2) (Ob (.inr (.inr (sa.2.1,sa.2.2.1,sa.2.2.2)))) (Zb (goL sa.2.1) λsb=>
Zb (step sb ya.1.1) λyb=>
cond (!(yb).isLeft) (Ob (.inr (.inr (yb,ya.1.1.1,ya.1.1.2.1)))) (Ob (.inl (w64 (sa.1+1),yb,ya.1.1.1,ya.1.1.2.1)))))) (Ob (.inr (.inl (sa.2.1,sa.2.2.1,sa.2.2.2))))) big (0,(.inl s_),a.1,a.2.1)) λta=>
alt (λba=>Ob (ba.1,(ba.2.1,ba.2.2,()))) (λbb=>Ob (bb.1,(bb.2.1,bb.2.2,()))) ta
def zcg (c:zau) (b:ze) (a:(ze->Option Int)):Option (ze×zau×(ze->Option Int)):=
Ob (b,c,a)
def zcp (b:zaF) (c:ze) (a:Int):Option Bool:=
Zb (zbU b c a) λy2=>
cond (!y2) (Ob Oc) (Zb (zcg b.1 c (λx=>zaU b x)) λy7=>
Zb (zbe (σ:=(Int×Int)) (τ:=(Int×Int)) (λsa x9=>
Zb (zbU b x9 a) λya=>
cond (!ya) (Ob (.inr (sa.1,sa.2))) (Ob (.inl (x9.1,x9.2.1)))) (c.1,c.2.1) y7.1 y7.2.1 y7.2.2) λta=>
alt (λba=>Ob (ba.1==0)) (λbb=>Ob Oc) ta.1)
def zaX (b:zaF) (c:ze) (a:Int):Option (zbo×Bool):=
Zb (zaU b c) λy2=>
Zb (iter (σ:=(Bool×Int×Int×Int×Int×Int×Int×Int×Int×Int×Int×Int)) (τ:=(Bool×Int×Int×Int×Int×Int×Int×Int×Int×Int×Int)) (λsa=>
cond (decide (sa.2.1<9)) (Zb (zaI b.1 c (w64 (4-sa.2.1)) y2) λya=>
cond ya.2 (Zb (zcp b ya.1.1 a) λyb=>
cond yb (Ob (.inr (Od,ya.1.1.1,ya.1.1.2.1,ya.1.2.1.1,ya.1.2.1.2.1,ya.1.2.1.2.2.1,ya.1.2.1.2.2.2.1,ya.1.2.1.2.2.2.2.1,ya.1.2.1.2.2.2.2.2.1,ya.1.2.2.1,ya.1.2.2.2.1))) (Ob (.inl (sa.1,w64 (sa.2.1+1),sa.2.2.1,sa.2.2.2.1,sa.2.2.2.2.1,sa.2.2.2.2.2.1,sa.2.2.2.2.2.2.1,sa.2.2.2.2.2.2.2.1,sa.2.2.2.2.2.2.2.2.1,sa.2.2.2.2.2.2.2.2.2.1,sa.2.2.2.2.2.2.2.2.2.2.1,sa.2.2.2.2.2.2.2.2.2.2.2)))) (Ob (.inl (sa.1,w64 (sa.2.1+1),sa.2.2.1,sa.2.2.2.1,sa.2.2.2.2.1,sa.2.2.2.2.2.1,sa.2.2.2.2.2.2.1,sa.2.2.2.2.2.2.2.1,sa.2.2.2.2.2.2.2.2.1,sa.2.2.2.2.2.2.2.2.2.1,sa.2.2.2.2.2.2.2.2.2.2.1,sa.2.2.2.2.2.2.2.2.2.2.2)))) (Ob (.inr (sa.1,sa.2.2.1,sa.2.2.2.1,sa.2.2.2.2.1,sa.2.2.2.2.2.1,sa.2.2.2.2.2.2.1,sa.2.2.2.2.2.2.2.1,sa.2.2.2.2.2.2.2.2.1,sa.2.2.2.2.2.2.2.2.2.1,sa.2.2.2.2.2.2.2.2.2.2.1,sa.2.2.2.2.2.2.2.2.2.2.2)))) big (Oc,0,0,0,0,0,0,0,0,0,0,0)) λta=>
Ob (((ta.2.1,ta.2.2.1,()),(ta.2.2.2.1,ta.2.2.2.2.1,ta.2.2.2.2.2.1,ta.2.2.2.2.2.2.1,ta.2.2.2.2.2.2.2.1,ta.2.2.2.2.2.2.2.2.1,()),ta.2.2.2.2.2.2.2.2.2.1,ta.2.2.2.2.2.2.2.2.2.2,()),ta.1)
def zdc (a:List zab):Option zab:=
Zb (iter (σ:=(Int×Int×Int×Int×Int×Int×Int)) (τ:=(Int×Int×Int×Int×Int×Int)) (λs9=>
cond (decide (s9.1<zo a)) (Zb (idx a s9.1) λxa=>
Ob (.inl (w64 (s9.1+1),w64 (s9.2.1+xa.1),w64 (s9.2.2.1+xa.2.1),w64 (s9.2.2.2.1+xa.2.2.1),w64 (s9.2.2.2.2.1+xa.2.2.2.1),w64 (s9.2.2.2.2.2.1+xa.2.2.2.2.1),w64 (s9.2.2.2.2.2.2+xa.2.2.2.2.2.1)))) (Ob (.inr (s9.2.1,s9.2.2.1,s9.2.2.2.1,s9.2.2.2.2.1,s9.2.2.2.2.2.1,s9.2.2.2.2.2.2)))) big (0,0,0,0,0,0,0)) λta=>
Ob (ta.1,ta.2.1,ta.2.2.1,ta.2.2.2.1,ta.2.2.2.2.1,ta.2.2.2.2.2,())
def zbE (b:zaF) (c:ze) (a:Int):Option (Leg×ze×Bool):=
Zb (iter (σ:=(Int×Int×Int×Int×Int×Int×Int×Int×Int×Int×Int×Int×Int×Int×Int×Int×Int×Int×Int×Int×Int×Int×Int×Int×Int)) (τ:=(Bool×Int×Int×Int×Int×Int×Int×Int×Int×Int×Int×Int×Int×Int×Int×Int×Int×Int×Int×Int×Int×Int×Int×Int×Int)) (λsa=>
Zb (z6 b.1 (sa.2.2.2.2.2.2.2.2.2.2.2.2.2.2.1,sa.2.2.2.2.2.2.2.2.2.2.2.2.2.2.2.1,())) λye=>
cond (sa.2.2.2.2.2.2.2.2.2.2.2.2.2.2.1==0) (Zb (zW (w64 (a-ye)) 0 1000) λyf=>
cond yf (Ob (.inr (Od,ye,sa.2.2.2.2.2.2.2.2.2.2.2.2.2.2.1,sa.2.2.2.2.2.2.2.2.2.2.2.2.2.2.2.1,sa.2.1,ye,sa.2.2.2.1,sa.2.2.2.2.1,sa.2.2.2.2.2.1,sa.2.2.2.2.2.2.1,sa.2.2.2.2.2.2.2.1,sa.2.2.2.2.2.2.2.2.1,sa.2.2.2.2.2.2.2.2.2.1,sa.2.2.2.2.2.2.2.2.2.2.1,sa.2.1,sa.2.2.2.1,sa.2.2.2.2.1,sa.2.2.2.2.2.1,sa.2.2.2.2.2.2.1,sa.2.2.2.2.2.2.2.1,sa.2.2.2.2.2.2.2.2.1,sa.2.2.2.2.2.2.2.2.2.1,sa.2.2.2.2.2.2.2.2.2.2.1,sa.2.2.2.2.2.2.2.2.2.2.2.2.2.2.1,sa.2.2.2.2.2.2.2.2.2.2.2.2.2.2.2.1))) (cond (sa.1==36000) (Ob (.inr (Oc,sa.2.2.1,sa.2.2.2.2.2.2.2.2.2.2.2.2.2.2.1,sa.2.2.2.2.2.2.2.2.2.2.2.2.2.2.2.1,sa.2.1,sa.2.2.1,sa.2.2.2.1,sa.2.2.2.2.1,sa.2.2.2.2.2.1,sa.2.2.2.2.2.2.1,sa.2.2.2.2.2.2.2.1,sa.2.2.2.2.2.2.2.2.1,sa.2.2.2.2.2.2.2.2.2.1,sa.2.2.2.2.2.2.2.2.2.2.1,sa.2.1,sa.2.2.2.1,sa.2.2.2.2.1,sa.2.2.2.2.2.1,sa.2.2.2.2.2.2.1,sa.2.2.2.2.2.2.2.1,sa.2.2.2.2.2.2.2.2.1,sa.2.2.2.2.2.2.2.2.2.1,sa.2.2.2.2.2.2.2.2.2.2.1,sa.2.2.2.2.2.2.2.2.2.2.2.2.2.2.1,sa.2.2.2.2.2.2.2.2.2.2.2.2.2.2.2.1))) (Zb (zaX b (sa.2.2.2.2.2.2.2.2.2.2.2.2.2.2.1,sa.2.2.2.2.2.2.2.2.2.2.2.2.2.2.2.1,()) a) λya=>
cond (!ya.2) (Ob (.inr (Oc,sa.2.2.1,sa.2.2.2.2.2.2.2.2.2.2.2.2.2.2.1,sa.2.2.2.2.2.2.2.2.2.2.2.2.2.2.2.1,sa.2.1,sa.2.2.1,sa.2.2.2.1,sa.2.2.2.2.1,sa.2.2.2.2.2.1,sa.2.2.2.2.2.2.1,sa.2.2.2.2.2.2.2.1,sa.2.2.2.2.2.2.2.2.1,sa.2.2.2.2.2.2.2.2.2.1,sa.2.2.2.2.2.2.2.2.2.2.1,sa.2.1,sa.2.2.2.1,sa.2.2.2.2.1,sa.2.2.2.2.2.1,sa.2.2.2.2.2.2.1,sa.2.2.2.2.2.2.2.1,sa.2.2.2.2.2.2.2.2.1,sa.2.2.2.2.2.2.2.2.2.1,sa.2.2.2.2.2.2.2.2.2.2.1,sa.2.2.2.2.2.2.2.2.2.2.2.2.2.2.1,sa.2.2.2.2.2.2.2.2.2.2.2.2.2.2.2.1))) (cond (decide (ya.1.1.2.1>10000000000000000)) (Ob (.inr (Oc,sa.2.2.1,sa.2.2.2.2.2.2.2.2.2.2.2.2.2.2.1,sa.2.2.2.2.2.2.2.2.2.2.2.2.2.2.2.1,sa.2.1,sa.2.2.1,sa.2.2.2.1,sa.2.2.2.2.1,sa.2.2.2.2.2.1,sa.2.2.2.2.2.2.1,sa.2.2.2.2.2.2.2.1,sa.2.2.2.2.2.2.2.2.1,sa.2.2.2.2.2.2.2.2.2.1,sa.2.2.2.2.2.2.2.2.2.2.1,sa.2.1,sa.2.2.2.1,sa.2.2.2.2.1,sa.2.2.2.2.2.1,sa.2.2.2.2.2.2.1,sa.2.2.2.2.2.2.2.1,sa.2.2.2.2.2.2.2.2.1,sa.2.2.2.2.2.2.2.2.2.1,sa.2.2.2.2.2.2.2.2.2.2.1,sa.2.2.2.2.2.2.2.2.2.2.2.2.2.2.1,sa.2.2.2.2.2.2.2.2.2.2.2.2.2.2.2.1))) (Zb (zdc ([(sa.2.2.2.1,sa.2.2.2.2.1,sa.2.2.2.2.2.1,sa.2.2.2.2.2.2.1,sa.2.2.2.2.2.2.2.1,sa.2.2.2.2.2.2.2.2.1,()),ya.1.2.1])) λyc=>
Ob (.inl (w64 (sa.1+1),w64 (sa.2.1+100),sa.2.2.1,yc.1,yc.2.1,yc.2.2.1,yc.2.2.2.1,yc.2.2.2.2.1,yc.2.2.2.2.2.1,max sa.2.2.2.2.2.2.2.2.2.1 ya.1.2.2.1,max sa.2.2.2.2.2.2.2.2.2.2.1 ya.1.2.2.2.1,sa.2.2.2.2.2.2.2.2.2.2.2.1,sa.2.2.2.2.2.2.2.2.2.2.2.2.1,sa.2.2.2.2.2.2.2.2.2.2.2.2.2.1,ya.1.1.1,ya.1.1.2.1,sa.2.2.2.2.2.2.2.2.2.2.2.2.2.2.2.2.1,sa.2.2.2.2.2.2.2.2.2.2.2.2.2.2.2.2.2.1,sa.2.2.2.2.2.2.2.2.2.2.2.2.2.2.2.2.2.2.1,sa.2.2.2.2.2.2.2.2.2.2.2.2.2.2.2.2.2.2.2.1,sa.2.2.2.2.2.2.2.2.2.2.2.2.2.2.2.2.2.2.2.2.1,sa.2.2.2.2.2.2.2.2.2.2.2.2.2.2.2.2.2.2.2.2.2.1,sa.2.2.2.2.2.2.2.2.2.2.2.2.2.2.2.2.2.2.2.2.2.2.1,sa.2.2.2.2.2.2.2.2.2.2.2.2.2.2.2.2.2.2.2.2.2.2.2.1,sa.2.2.2.2.2.2.2.2.2.2.2.2.2.2.2.2.2.2.2.2.2.2.2.2))))))) (cond (sa.1==36000) (Ob (.inr (Oc,sa.2.2.1,sa.2.2.2.2.2.2.2.2.2.2.2.2.2.2.1,sa.2.2.2.2.2.2.2.2.2.2.2.2.2.2.2.1,sa.2.1,sa.2.2.1,sa.2.2.2.1,sa.2.2.2.2.1,sa.2.2.2.2.2.1,sa.2.2.2.2.2.2.1,sa.2.2.2.2.2.2.2.1,sa.2.2.2.2.2.2.2.2.1,sa.2.2.2.2.2.2.2.2.2.1,sa.2.2.2.2.2.2.2.2.2.2.1,sa.2.1,sa.2.2.2.1,sa.2.2.2.2.1,sa.2.2.2.2.2.1,sa.2.2.2.2.2.2.1,sa.2.2.2.2.2.2.2.1,sa.2.2.2.2.2.2.2.2.1,sa.2.2.2.2.2.2.2.2.2.1,sa.2.2.2.2.2.2.2.2.2.2.1,sa.2.2.2.2.2.2.2.2.2.2.2.2.2.2.1,sa.2.2.2.2.2.2.2.2.2.2.2.2.2.2.2.1))) (Zb (zaX b (sa.2.2.2.2.2.2.2.2.2.2.2.2.2.2.1,sa.2.2.2.2.2.2.2.2.2.2.2.2.2.2.2.1,()) a) λyb=>
cond (!yb.2) (Ob (.inr (Oc,sa.2.2.1,sa.2.2.2.2.2.2.2.2.2.2.2.2.2.2.1,sa.2.2.2.2.2.2.2.2.2.2.2.2.2.2.2.1,sa.2.1,sa.2.2.1,sa.2.2.2.1,sa.2.2.2.2.1,sa.2.2.2.2.2.1,sa.2.2.2.2.2.2.1,sa.2.2.2.2.2.2.2.1,sa.2.2.2.2.2.2.2.2.1,sa.2.2.2.2.2.2.2.2.2.1,sa.2.2.2.2.2.2.2.2.2.2.1,sa.2.1,sa.2.2.2.1,sa.2.2.2.2.1,sa.2.2.2.2.2.1,sa.2.2.2.2.2.2.1,sa.2.2.2.2.2.2.2.1,sa.2.2.2.2.2.2.2.2.1,sa.2.2.2.2.2.2.2.2.2.1,sa.2.2.2.2.2.2.2.2.2.2.1,sa.2.2.2.2.2.2.2.2.2.2.2.2.2.2.1,sa.2.2.2.2.2.2.2.2.2.2.2.2.2.2.2.1))) (cond (decide (yb.1.1.2.1>10000000000000000)) (Ob (.inr (Oc,sa.2.2.1,sa.2.2.2.2.2.2.2.2.2.2.2.2.2.2.1,sa.2.2.2.2.2.2.2.2.2.2.2.2.2.2.2.1,sa.2.1,sa.2.2.1,sa.2.2.2.1,sa.2.2.2.2.1,sa.2.2.2.2.2.1,sa.2.2.2.2.2.2.1,sa.2.2.2.2.2.2.2.1,sa.2.2.2.2.2.2.2.2.1,sa.2.2.2.2.2.2.2.2.2.1,sa.2.2.2.2.2.2.2.2.2.2.1,sa.2.1,sa.2.2.2.1,sa.2.2.2.2.1,sa.2.2.2.2.2.1,sa.2.2.2.2.2.2.1,sa.2.2.2.2.2.2.2.1,sa.2.2.2.2.2.2.2.2.1,sa.2.2.2.2.2.2.2.2.2.1,sa.2.2.2.2.2.2.2.2.2.2.1,sa.2.2.2.2.2.2.2.2.2.2.2.2.2.2.1,sa.2.2.2.2.2.2.2.2.2.2.2.2.2.2.2.1))) (Zb (zdc ([(sa.2.2.2.1,sa.2.2.2.2.1,sa.2.2.2.2.2.1,sa.2.2.2.2.2.2.1,sa.2.2.2.2.2.2.2.1,sa.2.2.2.2.2.2.2.2.1,()),yb.1.2.1])) λyd=>
Ob (.inl (w64 (sa.1+1),w64 (sa.2.1+100),sa.2.2.1,yd.1,yd.2.1,yd.2.2.1,yd.2.2.2.1,yd.2.2.2.2.1,yd.2.2.2.2.2.1,max sa.2.2.2.2.2.2.2.2.2.1 yb.1.2.2.1,max sa.2.2.2.2.2.2.2.2.2.2.1 yb.1.2.2.2.1,sa.2.2.2.2.2.2.2.2.2.2.2.1,sa.2.2.2.2.2.2.2.2.2.2.2.2.1,sa.2.2.2.2.2.2.2.2.2.2.2.2.2.1,yb.1.1.1,yb.1.1.2.1,sa.2.2.2.2.2.2.2.2.2.2.2.2.2.2.2.2.1,sa.2.2.2.2.2.2.2.2.2.2.2.2.2.2.2.2.2.1,sa.2.2.2.2.2.2.2.2.2.2.2.2.2.2.2.2.2.2.1,sa.2.2.2.2.2.2.2.2.2.2.2.2.2.2.2.2.2.2.2.1,sa.2.2.2.2.2.2.2.2.2.2.2.2.2.2.2.2.2.2.2.2.1,sa.2.2.2.2.2.2.2.2.2.2.2.2.2.2.2.2.2.2.2.2.2.1,sa.2.2.2.2.2.2.2.2.2.2.2.2.2.2.2.2.2.2.2.2.2.2.1,sa.2.2.2.2.2.2.2.2.2.2.2.2.2.2.2.2.2.2.2.2.2.2.2.1,sa.2.2.2.2.2.2.2.2.2.2.2.2.2.2.2.2.2.2.2.2.2.2.2.2))))))) big (0,0,0,0,0,0,0,0,0,0,0,0,0,0,c.1,c.2.1,0,0,0,0,0,0,0,0,0)) λta=>
Ob ((ta.2.2.2.2.1,ta.2.2.2.2.2.1,(ta.2.2.2.2.2.2.1,ta.2.2.2.2.2.2.2.1,ta.2.2.2.2.2.2.2.2.1,ta.2.2.2.2.2.2.2.2.2.1,ta.2.2.2.2.2.2.2.2.2.2.1,ta.2.2.2.2.2.2.2.2.2.2.2.1,()),ta.2.2.2.2.2.2.2.2.2.2.2.2.1,ta.2.2.2.2.2.2.2.2.2.2.2.2.2.1,()),(ta.2.2.1,ta.2.2.2.1,()),ta.1)
def zch (e:Plan) (c:List zL) (d:Train) (b:Int) (a:List Int):Option (List Leg×Int):=
Zb (zdY e c d b a) λy1=>
cond (!y1.2) (Ob ([],2)) (Zb (idx a 0) λx5=>
Zb (slO a 1 (zo a)) λx7=>
Zb (iter (σ:=(List Leg×Int×Int×Int)) (τ:=(List Leg×Int×Int)⊕(List Leg×Int×Int×Int)) (λsa=>
cond (decide (sa.2.1<zo x7)) (Zb (idx x7 sa.2.1) λxa=>
Zb y1.1 λpa=>
Zb (zbE pa (sa.2.2.1,sa.2.2.2,()) xa) λya=>
cond (!ya.2.2) (Ob (.inr (.inr ([],4,sa.2.2.1,sa.2.2.2)))) (cond (decide (sa.2.2.2>10000000000000000)) (Ob (.inr (.inr ([],4,sa.2.2.1,sa.2.2.2)))) (Zb (zdi 80 sa.1 ([ya.1])) λxb=>
Ob (.inl (xb,w64 (sa.2.1+1),ya.2.1.1,ya.2.1.2.1))))) (Ob (.inr (.inl (sa.1,sa.2.2.1,sa.2.2.2))))) big ([],0,0,w64 (w64 (10*d.1)*x5))) λta=>
alt (λbb=>Ob (bb.1,0)) (λba=>Ob (ba.1,ba.2.1)) ta)
def zaY (b:List Leg) (a:(Leg->Option Int)):Option (List Int):=
Zb (iter (σ:=(List Int×Int)) (τ:=List Int) (λs7=>
cond (decide (s7.2<zo b)) (Zb (idx b s7.2) λxa=>
Zb (a xa) λya=>
Zb (zdi 8 s7.1 ([ya])) λxb=>
Ob (.inl (xb,w64 (s7.2+1)))) (Ob (.inr s7.1))) big ([],0)) λta=>
Ob ta
def ze1 (a:Leg):Option Int:=
Ob a.1
def zb4 (d:Plan) (c:List zL) (e:Train) (a:Int) (b:List Int):Option (List Int×Int):=
Zb (zch d c e a b) λy1=>
cond (y1.2 !=0) (Ob ([],y1.2)) (Zb (zaY y1.1 (λx=>ze1 x)) λy4=>
Ob (y4,0))
def zbw (b:Plan) (c:Line) (a:Course):Option (List Int×List Int×Bool):=
Zb (zco b a.1) λy1=>
Zb (cond (y1.2 !=0) (Ob Od) (Zb (z5 (zo a.2.1) 2 60) λyb=>
cond (!yb) (Ob Od) (cond ((zo a.2.2.1)!=zo a.2.1) (Ob Od) (Zb (idx a.2.2.1 0) λxd=>
cond (xd !=0) (Ob Od) (Zb (idx a.2.2.1 (w64 (zo a.2.1-1))) λxe=>
Ob (xe !=0)))))) λc9=>
cond c9 (Ob ([],[],Oc)) (Zb (iter (σ:=Int) (τ:=Unit⊕(List Int×List Int×Bool)) (λsb=>
cond (decide (sb<zo a.2.1)) (Zb (idx a.2.1 sb) λxa=>
Zb (z5 xa 1 y1.1) λyc=>
cond (!yc) (Ob (.inr (.inr ([],[],Oc)))) (cond (decide (sb>0)) (Zb (idx a.2.1 (w64 (sb-1))) λxf=>
cond (decide (xa<=xf)) (Ob (.inr (.inr ([],[],Oc)))) (Zb (idx a.2.2.1 sb) λxg=>
Zb (z5 xg 0 600) λyd=>
cond (!yd) (Ob (.inr (.inr ([],[],Oc)))) (Ob (.inl (w64 (sb+1)))))) (Zb (idx a.2.2.1 sb) λxh=>
Zb (z5 xh 0 600) λye=>
cond (!ye) (Ob (.inr (.inr ([],[],Oc)))) (Ob (.inl (w64 (sb+1))))))) (Ob (.inr (.inl ())))) big 0) λtb=>
alt (λbb=>Zb (zb4 b a.1 c.2.2.1 c.2.2.2.1 a.2.1) λya=>
Zb (cond (ya.2 !=0) (Ob Od) (Ob ((zo ya.1)!=w64 (zo a.2.1-1)))) λca=>
cond ca (Ob ([],[],Oc)) (Zb (mkO 8 (zo a.2.1) (0:Int)) λxi=>
Zb (mkO 8 (zo a.2.1) (0:Int)) λxj=>
Zb (iter (σ:=(Int×List Int×List Int)) (τ:=(List Int×List Int)) (λsa=>
cond (decide (sa.1<zo ya.1)) (Zb (idx ya.1 sa.1) λxk=>
Zb (zdj .i64 (w64 (xk+999)) 1000) λxb=>
Zb (idx sa.2.2 (w64 (sa.1+1))) λxp=>
Zb (idx sa.2.1 sa.1) λxl=>
Zb (idx ((sa.2.2).set (Int.toNat (w64 (sa.1+1))) (max 1 xb)) (w64 (sa.1+1))) λxm=>
Zb (idx a.2.2.1 (w64 (sa.1+1))) λxn=>
Zb (idx sa.2.1 (w64 (sa.1+1))) λxq=>
Ob (.inl (w64 (sa.1+1),(sa.2.1).set (Int.toNat (w64 (sa.1+1))) (w64 (w64 (xl+xm)+xn)),(sa.2.2).set (Int.toNat (w64 (sa.1+1))) (max 1 xb)))) (Ob (.inr (sa.2.1,sa.2.2)))) big (0,xj,xi)) λta=>
Zb (idx ta.1 (w64 (zo a.2.1-1))) λxo=>
Ob (ta.2,ta.1,decide (xo<=50000)))) (λba=>Ob (ba.1,ba.2.1,ba.2.2)) tb)
def zcS (b:Plan) (a:Line):Option (Option zz×Bool):=
Zb (Zb (zdL b) λy5=>
cond (y5 !=0) (Ob Od) (Zb (z5 a.2.2.2.2.1 0 3600) λy7=>
Ob (!y7))) λc4=>
cond c4 (Ob ((Oe:Option zz),Oc)) (Zb (zcn a) λyb=>
Zb (iter (σ:=(Int×List Int×List Int×List Int×List Int)) (τ:=(List Int×List Int×List Int×List Int)⊕(Option zz×Bool×List Int×List Int×List Int×List Int)) (λsa=>
cond (decide (sa.1<2)) (Zb (idx yb sa.1) λxa=>
Zb (zbw b a xa) λya=>
Zb (idx [(),()] sa.1) λxb=>
Zb (idx [(),()] sa.1) λxd=>
cond (!ya.2.2) (Ob (.inr (.inr ((Oe:Option zz),Oc,cond (sa.1==0) ya.1 sa.2.1,cond (sa.1==1) ya.1 sa.2.2.1,cond (sa.1==0) ya.2.1 sa.2.2.2.1,cond (sa.1==1) ya.2.1 sa.2.2.2.2)))) (Ob (.inl (w64 (sa.1+1),cond (sa.1==0) ya.1 sa.2.1,cond (sa.1==1) ya.1 sa.2.2.1,cond (sa.1==0) ya.2.1 sa.2.2.2.1,cond (sa.1==1) ya.2.1 sa.2.2.2.2)))) (Ob (.inr (.inl (sa.2.1,sa.2.2.1,sa.2.2.2.1,sa.2.2.2.2))))) big (0,[],[],[],[])) λta=>
alt (λba=>Ob (Ob (((a.1.1,a.1.2.1,a.1.2.2.1,()),(a.2.1.1,a.2.1.2.1,a.2.1.2.2.1,()),(a.2.2.1.1,a.2.2.1.2.1,a.2.2.1.2.2.1,a.2.2.1.2.2.2.1,a.2.2.1.2.2.2.2.1,a.2.2.1.2.2.2.2.2.1,a.2.2.1.2.2.2.2.2.2.1,a.2.2.1.2.2.2.2.2.2.2.1,a.2.2.1.2.2.2.2.2.2.2.2.1,a.2.2.1.2.2.2.2.2.2.2.2.2.1,()),a.2.2.2.1,a.2.2.2.2.1,()),[ba.1,ba.2.1],[ba.2.2.1,ba.2.2.2],()),Od)) (λbb=>Ob (bb.1,bb.2.1)) ta)
def zgg (a:Bool):Option Int:=
cond a (Ob 1) (Ob 0)
def zaf (b:Plan) (c:Line) (a:Bool):Option (List Int×Int):=
Zb (zcS b c) λy1=>
cond (!y1.2) (Ob ([],2)) (Zb (zgg a) λy6=>
Zb y1.1 λp7=>
Zb (idx p7.2.2.1 y6) λx8=>
Ob (x8,0))
def zdZ (a:Int):Option (Plan×Line):=
Zb (zdj .i64 a 2) λx5=>
Zb (zdj .i64 a 2) λx7=>
Ob ((([(((0,0,()),1,[((0,Oc,()):zm)],0,()):zcy),((((a,0,()):Spot),1,[((0,Od,()):zm)],0,()):zcy)],[((0,1,[],8000,0,()):Rail)],()):Plan),(((([((0,Oc,()):zL)],[1000,x5,a],[0,20,0],()):Course),(([((0,Od,()):zL)],[1000,x7,a],[0,10,0],()):Course),((1000,1000,8000,2000,2000,1000000,0,0,0,[1000],()):Train),0,30,()):Line))
def zfu :Option Bool:=
Zb (zdZ 21000) λy1=>
Zb (zb4 y1.1 y1.2.1.1 y1.2.2.2.1 0 y1.2.1.2.1) λy4=>
Zb (zaf y1.1 y1.2 Oc) λy6=>
Zb (cond (y4.2==0) (cond (y6.2==0) (cond (zo y4.1==2) (cond (zo y6.1==3) (Zb (idx y6.1 1) λxa=>
Zb (idx y4.1 0) λxb=>
Zb (zdj .i64 (w64 (xb+999)) 1000) λxd=>
Ob (xa==w64 (xd+20))) (Ob Oc)) (Ob Oc)) (Ob Oc)) (Ob Oc)) λca=>
Ob ca
def zdM :Option Bool:=
Zb zfu λy1=>
Ob y1
def zdA (b:Plan) (a:List Line):Option (List zz×Bool):=
Zb (z5 (zo a) 1 20) λy1=>
cond (!y1) (Ob ([],Oc)) (Zb (iter (σ:=(List zz×Int)) (τ:=List zz⊕(List zz×Bool)) (λsa=>
cond (decide (sa.2<zo a)) (Zb (idx a sa.2) λxa=>
Zb (zcS b xa) λya=>
cond (!ya.2) (Ob (.inr (.inr ([],Oc)))) (Zb ya.1 λpa=>
Zb (zdi 8 sa.1 ([pa])) λxb=>
Ob (.inl (xb,w64 (sa.2+1))))) (Ob (.inr (.inl sa.1)))) big ([],0)) λta=>
alt (λbb=>Ob (bb,Od)) (λba=>Ob (ba.1,ba.2)) ta)
def zcq (b:Plan) (a:Service):Option (List zz×Bool):=
Zb (cond ((zo a.2.1)!=zo a.1) (Ob Od) (Ob ((zo a.2.2.1)!=zo a.1))) λc4=>
cond c4 (Ob ([],Oc)) (Zb (iter (σ:=Int) (τ:=Unit⊕(List zz×Bool)) (λsa=>
cond (decide (sa<zo a.2.1)) (Zb (idx a.2.1 sa) λxa=>
Zb (z5 xa 30 7200) λyb=>
cond (!yb) (Ob (.inr (.inr ([],Oc)))) (Zb (idx a.2.2.1 sa) λxb=>
Zb (z5 xb 0 (w64 (xa-1))) λyc=>
cond (!yc) (Ob (.inr (.inr ([],Oc)))) (Ob (.inl (w64 (sa+1)))))) (Ob (.inr (.inl ())))) big 0) λta=>
alt (λbb=>Zb (zdA b a.1) λya=>
Ob (ya.1,ya.2)) (λba=>Ob (ba.1,ba.2)) ta)
def zaa (a:List Works) (b:(Works->Option Bool)):Option Int:=
Zb (iter (σ:=Int) (τ:=Unit⊕Int) (λs5=>
cond (decide (s5<zo a)) (Zb (idx a s5) λx8=>
Zb (b x8) λy9=>
cond y9 (Ob (.inr (.inr s5))) (Ob (.inl (w64 (s5+1))))) (Ob (.inr (.inl ())))) big 0) λta=>
alt (λbb=>Ob (-1)) (λba=>Ob ba) ta
def zX (a:List Works) (b:(Works->Option Bool)):Option Bool:=
Zb (zaa a b) λy1=>
Ob (decide (y1>=0))
def zbV (a:Works) (b:Plan):Option Bool:=
Zb (Zb (z5 a.1 0 (w64 (zo b.2.1-1))) λy6=>
cond (!y6) (Ob Od) (Zb (z5 a.2.1 0 a.2.2.1) λy8=>
cond (!y8) (Ob Od) (Ob (decide (a.2.2.1>200000))))) λc5=>
Ob c5
def zc1 (b:Plan) (a:List Works):Option Bool:=
Zb (cond (decide (zo a<=100)) (Zb (zX a (λx=>zbV x b)) λy6=>
Ob (!y6)) (Ob Oc)) λc4=>
Ob c4
def zA (b:zz) (a:Int):Option Int:=
Zb (idx b.2.2.1 a) λx4=>
Zb (idx b.2.2.1 a) λx5=>
Zb (idx x4 (w64 (zo x5-1))) λx6=>
Ob x6
def zbx (a:zz):Option Int:=
Zb (zA a 0) λy3=>
Zb (zA a 1) λy4=>
Ob (w64 (w64 (y3+y4)+w64 (2*a.1.2.2.2.2.1)))
def zba (b:zz) (a:Int):Option Int:=
Zb (zbx b) λy1=>
Zb (zdj .i64 (w64 (w64 (y1+a)-1)) a) λx2=>
Ob x2
def zcw (c:zz) (d:Int) (a:Int) (b:Int):Option Int:=
cond (d==0) (Ob b) (Zb (zA c 0) λy6=>
Zb (zba c a) λy7=>
Zb (zbx c) λy8=>
Zb (zdj .i64 (w64 (w64 (y7*a)-y8)) 2) λx9=>
Ob (w64 (w64 (w64 (b+y6)+c.1.2.2.2.2.1)+x9)))
def zcc (b:Int) (a:Int):Option Int:=
Zb (zq0 b a) λx1=>
Zb (zq0 (w64 (x1+a)) a) λx2=>
Ob x2
def zK {σ τ:Type} (step:σ->(Int×Int)->Option (σ⊕τ)) (s_:σ) (c:zz) (e:Int) (a:Int) (d:Int) (b:Int):Option (σ⊕τ):=
Zb (zcw c e a d) λy1=>
Zb (zcc (w64 (y1-b)) a) λy3=>
Zb (iter (σ:=(Int×(σ⊕τ))) (τ:=(σ⊕τ)) (λsa=>
Zb (zdj .i64 (w64 (sa.1-y1)) a) λxa=>
Zb (zba c a) λyb=>
Zb (zcc xa yb) λyc=>
Zb (goL sa.2) λsb=>
Zb (step sb (sa.1,yc)) λya=>
cond (!(ya).isLeft) (Ob (.inr ya)) (Ob (.inl (w64 (sa.1+a),ya)))) big (w64 (b+y3),(.inl s_))) λta=>
Ob ta
def zas (e:zz) (d:Int) (a:Int) (b:Int) (c:Int):Option (zz×Int×Int×Int×Int):=
Ob (e,d,a,b,c)
def zaB (a:List zL) (b:(zL->Option Bool)):Option Int:=
Zb (iter (σ:=Int) (τ:=Unit⊕Int) (λs5=>
cond (decide (s5<zo a)) (Zb (idx a s5) λx8=>
Zb (b x8) λy9=>
cond y9 (Ob (.inr (.inr s5))) (Ob (.inl (w64 (s5+1))))) (Ob (.inr (.inl ())))) big 0) λta=>
alt (λbb=>Ob (-1)) (λba=>Ob ba) ta
def zaZ (a:List zL) (b:(zL->Option Bool)):Option Bool:=
Zb (zaB a b) λy1=>
Ob (decide (y1>=0))
def zbX (a:zL) (b:Works):Option Bool:=
Ob (a.1==b.1)
def za2 (a:Works) (e:List zL) (b:Int) (d:zz) (c:Int):Option Bool:=
Zb (zaZ e (λx=>zbX x a)) λy1=>
Zb (cond y1 (cond (decide (b<a.2.2.1)) (Zb (zA d c) λya=>
Ob (decide (a.2.1<w64 (b+ya)))) (Ob Oc)) (Ob Oc)) λc8=>
Ob c8
def zaD (c:zz) (a:Int) (b:Int) (d:List Works):Option Bool:=
Zb (zcn c.1) λy4=>
Zb (idx y4 a) λx5=>
Zb (zX d (λx=>za2 x x5.1 b c a)) λy7=>
Ob (!y7)
def zaw (a:Int):Option (List Trip):=
cond (decide (a<0)) Oe (cond (decide (w64 (a-w64 (0-0))>0)) (Zb (zo7 32 (w64 (a-w64 (0-0))) ((0,Oc,0,0,()):Trip)) λx3=>
Zb (slz x3) λx5=>
Ob ([]:List Trip)) (Ob ([])))
def zap (a:List (List Trip)):Option (List Trip):=
Zb (iter (σ:=(Int×Int)) (τ:=Int) (λs4=>
cond (decide (s4.2<zo a)) (Zb (idx a s4.2) λx7=>
cond (decide (w64 (s4.1+zo x7)<0)) Oe (Ob (.inl (w64 (s4.1+zo x7),w64 (s4.2+1))))) (Ob (.inr s4.1))) big (0,0)) λt9=>
Zb (zaw t9) λya=>
Zb (iter (σ:=(List Trip×Int)) (τ:=List Trip) (λsa=>
cond (decide (sa.2<zo a)) (Zb (idx a sa.2) λxa=>
Zb (zdi 32 sa.1 xa) λxb=>
Ob (.inl (xb,w64 (sa.2+1)))) (Ob (.inr sa.1))) big (ya,0)) λta=>
Ob ta
def zJ   (a:List Trip) (c:Int) (d:Int) (b:((Trip×Trip)->Option Int)):Option (List Trip):=
Zb (iter (σ:=(Int×List Trip)) (τ:=List Trip) (λsb=>
cond (decide (sb.1<d)) (Zb (iter (σ:=(Int×List Trip)) (τ:=List Trip) (λsa=>
cond (decide (sa.1>c)) (Zb (idx sa.2 sa.1) λxb=>
Zb (idx sa.2 (w64 (sa.1-1))) λxd=>
Zb (b (xb,xd)) λya=>
cond (decide (ya<0)) (Zb (idx sa.2 (w64 (sa.1-1))) λxa=>
Zb (idx sa.2 sa.1) λxe=>
Zb (idx sa.2 sa.1) λxf=>
Zb (idx ((sa.2).set (Int.toNat sa.1) xa) (w64 (sa.1-1))) λxg=>
Ob (.inl (w64 (sa.1-1),((sa.2).set (Int.toNat sa.1) xa).set (Int.toNat (w64 (sa.1-1))) xe))) (Ob (.inr sa.2))) (Ob (.inr sa.2))) big (sb.1,sb.2)) λta=>
Ob (.inl (w64 (sb.1+1),ta))) (Ob (.inr sb.2))) big (w64 (c+1),a)) λtb=>
Ob tb
def zr   (a:List Trip) (b:Int) (c:Int) (d:Int) (e:((Trip×Trip)->Option Int)):Option (List Trip):=
Zb (iter (σ:=(Int×List Trip)) (τ:=List Trip) (λsa=>
cond (decide (sa.1<d)) (Zb (idx sa.2 (w64 (c+sa.1))) λxa=>
Zb (idx sa.2 (w64 (b+sa.1))) λxb=>
Zb (idx sa.2 (w64 (b+sa.1))) λxd=>
Zb (idx ((sa.2).set (Int.toNat (w64 (b+sa.1))) xa) (w64 (c+sa.1))) λxe=>
Ob (.inl (w64 (sa.1+1),((sa.2).set (Int.toNat (w64 (b+sa.1))) xa).set (Int.toNat (w64 (c+sa.1))) xb))) (Ob (.inr sa.2))) big (0,a)) λta=>
Ob ta
def z4   (c:List Trip) (e:Int) (a:Int) (d:Int) (b:((Trip×Trip)->Option Int)):Option (List Trip):=
Zb (iter (σ:=(Int×Int×List Trip)) (τ:=(Int×List Trip)) (λsa=>
cond (sa.1 !=sa.2.1) (cond (decide (sa.1>sa.2.1)) (Zb (zr sa.2.2 (w64 (a-sa.1)) a sa.2.1 b) λya=>
Ob (.inl (w64 (sa.1-sa.2.1),sa.2.1,ya))) (Zb (zr sa.2.2 (w64 (a-sa.1)) (w64 (w64 (a+sa.2.1)-sa.1)) sa.1 b) λyb=>
Ob (.inl (sa.1,w64 (sa.2.1-sa.1),yb)))) (Ob (.inr (sa.1,sa.2.2)))) big (w64 (a-e),w64 (d-a),c)) λta=>
Zb (zr ta.2 (w64 (a-ta.1)) a ta.1 b) λyc=>
Ob yc
def zn   (rec:List Trip->Int->Int->Int->((Trip×Trip)->Option Int)->Option (List Trip)) (a:List Trip) (e:Int) (b:Int) (d:Int) (c:((Trip×Trip)->Option Int)):Option (List Trip):=
cond (w64 (b-e)==1) (Zb (iter (σ:=(Int×Int)) (τ:=Int) (λsc=>
cond (decide (sc.1<sc.2)) (Zb (zjD .u64 (IntKind.u64.wrap (w64 (sc.1+sc.2))) 1) λxe=>
Zb (idx a (w64 xe)) λxi=>
Zb (idx a e) λxj=>
Zb (c (xi,xj)) λyg=>
cond (decide (yg<0)) (Ob (.inl (w64 (w64 xe+1),sc.2))) (Ob (.inl (sc.1,w64 xe)))) (Ob (.inr sc.1))) big (b,d)) λtc=>
Zb (iter (σ:=(Int×List Trip)) (τ:=List Trip) (λsa=>
cond (decide (sa.1<w64 (tc-1))) (Zb (idx sa.2 (w64 (sa.1+1))) λxg=>
Zb (idx sa.2 sa.1) λxk=>
Zb (idx sa.2 sa.1) λxt=>
Zb (idx ((sa.2).set (Int.toNat sa.1) xg) (w64 (sa.1+1))) λxu=>
Ob (.inl (w64 (sa.1+1),((sa.2).set (Int.toNat sa.1) xg).set (Int.toNat (w64 (sa.1+1))) xk))) (Ob (.inr sa.2))) big (e,a)) λtd=>
Ob td) (cond (w64 (d-b)==1) (Zb (iter (σ:=(Int×Int)) (τ:=Int) (λsd=>
cond (decide (sd.1<sd.2)) (Zb (zjD .u64 (IntKind.u64.wrap (w64 (sd.1+sd.2))) 1) λxf=>
Zb (idx a b) λxl=>
Zb (idx a (w64 xf)) λxm=>
Zb (c (xl,xm)) λyh=>
cond (!(decide (yh<0))) (Ob (.inl (w64 (w64 xf+1),sd.2))) (Ob (.inl (sd.1,w64 xf)))) (Ob (.inr sd.1))) big (e,b)) λte=>
Zb (iter (σ:=(Int×List Trip)) (τ:=List Trip) (λsb=>
cond (decide (sb.1>te)) (Zb (idx sb.2 (w64 (sb.1-1))) λxh=>
Zb (idx sb.2 sb.1) λxn=>
Zb (idx sb.2 sb.1) λxv=>
Zb (idx ((sb.2).set (Int.toNat sb.1) xh) (w64 (sb.1-1))) λxw=>
Ob (.inl (w64 (sb.1-1),((sb.2).set (Int.toNat sb.1) xh).set (Int.toNat (w64 (sb.1-1))) xn))) (Ob (.inr sb.2))) big (b,a)) λtf=>
Ob tf) (Zb (zjD .u64 (IntKind.u64.wrap (w64 (e+d))) 1) λxa=>
cond (decide (b>w64 xa)) (Zb (iter (σ:=(Int×Int)) (τ:=Int) (λse=>
cond (decide (se.1<se.2)) (Zb (zjD .u64 (IntKind.u64.wrap (w64 (se.1+se.2))) 1) λxb=>
Zb (idx a (w64 (w64 (w64 (w64 xa+b)-1)-w64 xb))) λxo=>
Zb (idx a (w64 xb)) λxp=>
Zb (c (xo,xp)) λyi=>
cond (!(decide (yi<0))) (Ob (.inl (w64 (w64 xb+1),se.2))) (Ob (.inl (se.1,w64 xb)))) (Ob (.inr se.1))) big (w64 (w64 (w64 xa+b)-d),w64 xa)) λta=>
Zb (cond (decide (ta<b)) (Ob (decide (b<w64 (w64 (w64 xa+b)-ta)))) (Ob Oc)) λca=>
cond ca (Zb (z4 a ta b (w64 (w64 (w64 xa+b)-ta)) c) λya=>
Zb (cond (decide (e<ta)) (Ob (decide (ta<w64 xa))) (Ob Oc)) λcc=>
cond cc (Zb (rec ya e ta (w64 xa) c) λyc=>
Zb (cond (decide (w64 xa<w64 (w64 (w64 xa+b)-ta))) (Ob (decide (w64 (w64 (w64 xa+b)-ta)<d))) (Ob Oc)) λcd=>
cond cd (Zb (rec yc (w64 xa) (w64 (w64 (w64 xa+b)-ta)) d c) λyj=>
Ob yj) (Ob yc)) (Zb (cond (decide (w64 xa<w64 (w64 (w64 xa+b)-ta))) (Ob (decide (w64 (w64 (w64 xa+b)-ta)<d))) (Ob Oc)) λce=>
cond ce (Zb (rec ya (w64 xa) (w64 (w64 (w64 xa+b)-ta)) d c) λyk=>
Ob yk) (Ob ya))) (Zb (cond (decide (e<ta)) (Ob (decide (ta<w64 xa))) (Ob Oc)) λcf=>
cond cf (Zb (rec a e ta (w64 xa) c) λyd=>
Zb (cond (decide (w64 xa<w64 (w64 (w64 xa+b)-ta))) (Ob (decide (w64 (w64 (w64 xa+b)-ta)<d))) (Ob Oc)) λcg=>
cond cg (Zb (rec yd (w64 xa) (w64 (w64 (w64 xa+b)-ta)) d c) λyl=>
Ob yl) (Ob yd)) (Zb (cond (decide (w64 xa<w64 (w64 (w64 xa+b)-ta))) (Ob (decide (w64 (w64 (w64 xa+b)-ta)<d))) (Ob Oc)) λch=>
cond ch (Zb (rec a (w64 xa) (w64 (w64 (w64 xa+b)-ta)) d c) λym=>
Ob ym) (Ob a)))) (Zb (iter (σ:=(Int×Int)) (τ:=Int) (λsf=>
cond (decide (sf.1<sf.2)) (Zb (zjD .u64 (IntKind.u64.wrap (w64 (sf.1+sf.2))) 1) λxd=>
Zb (idx a (w64 (w64 (w64 (w64 xa+b)-1)-w64 xd))) λxq=>
Zb (idx a (w64 xd)) λxr=>
Zb (c (xq,xr)) λyn=>
cond (!(decide (yn<0))) (Ob (.inl (w64 (w64 xd+1),sf.2))) (Ob (.inl (sf.1,w64 xd)))) (Ob (.inr sf.1))) big (e,b)) λtb=>
Zb (cond (decide (tb<b)) (Ob (decide (b<w64 (w64 (w64 xa+b)-tb)))) (Ob Oc)) λci=>
cond ci (Zb (z4 a tb b (w64 (w64 (w64 xa+b)-tb)) c) λyb=>
Zb (cond (decide (e<tb)) (Ob (decide (tb<w64 xa))) (Ob Oc)) λcj=>
cond cj (Zb (rec yb e tb (w64 xa) c) λye=>
Zb (cond (decide (w64 xa<w64 (w64 (w64 xa+b)-tb))) (Ob (decide (w64 (w64 (w64 xa+b)-tb)<d))) (Ob Oc)) λck=>
cond ck (Zb (rec ye (w64 xa) (w64 (w64 (w64 xa+b)-tb)) d c) λyo=>
Ob yo) (Ob ye)) (Zb (cond (decide (w64 xa<w64 (w64 (w64 xa+b)-tb))) (Ob (decide (w64 (w64 (w64 xa+b)-tb)<d))) (Ob Oc)) λcl=>
cond cl (Zb (rec yb (w64 xa) (w64 (w64 (w64 xa+b)-tb)) d c) λyp=>
Ob yp) (Ob yb))) (Zb (cond (decide (e<tb)) (Ob (decide (tb<w64 xa))) (Ob Oc)) λcm=>
cond cm (Zb (rec a e tb (w64 xa) c) λyf=>
Zb (cond (decide (w64 xa<w64 (w64 (w64 xa+b)-tb))) (Ob (decide (w64 (w64 (w64 xa+b)-tb)<d))) (Ob Oc)) λcn=>
cond cn (Zb (rec yf (w64 xa) (w64 (w64 (w64 xa+b)-tb)) d c) λyq=>
Ob yq) (Ob yf)) (Zb (cond (decide (w64 xa<w64 (w64 (w64 xa+b)-tb))) (Ob (decide (w64 (w64 (w64 xa+b)-tb)<d))) (Ob Oc)) λco=>
cond co (Zb (rec a (w64 xa) (w64 (w64 (w64 xa+b)-tb)) d c) λyr=>
Ob yr) (Ob a))))))
def zu  :Nat->List Trip->Int->Int->Int->((Trip×Trip)->Option Int)->Option (List Trip)
 | 0=>λ_ _ _ _ _=>Oe
 | k+1=>zn (zu k)
def za3   (c:List Trip) (b:Int) (a:((Trip×Trip)->Option Int)):Option (List Trip):=
Zb (iter (σ:=(Int×Int×List Trip)) (τ:=(Int×List Trip)) (λs7=>
cond (decide (s7.2.1<=b)) (Zb (zJ s7.2.2 s7.1 s7.2.1 a) λya=>
Ob (.inl (s7.2.1,w64 (s7.2.1+20),ya))) (Ob (.inr (s7.1,s7.2.2)))) big (0,20,c)) λtb=>
Zb (zJ tb.2 tb.1 b a) λyb=>
Zb (iter (σ:=(Int×List Trip)) (τ:=List Trip) (λsa=>
cond (decide (sa.1<b)) (Zb (iter (σ:=(Int×Int×List Trip)) (τ:=(Int×List Trip)) (λsb=>
cond (decide (sb.2.1<=b)) (Zb (zu big sb.2.2 sb.1 (w64 (sb.1+sa.1)) sb.2.1 a) λyc=>
Ob (.inl (sb.2.1,w64 (sb.2.1+w64 (2*sa.1)),yc))) (Ob (.inr (sb.1,sb.2.2)))) big (0,w64 (2*sa.1),sa.2)) λta=>
cond (decide (w64 (ta.1+sa.1)<b)) (Zb (zu big ta.2 ta.1 (w64 (ta.1+sa.1)) b a) λyd=>
Ob (.inl (w64 (sa.1*2),yd))) (Ob (.inl (w64 (sa.1*2),ta.2)))) (Ob (.inr sa.2))) big (20,yb)) λtc=>
Ob tc
def zY   (b:List Trip) (a:((Trip×Trip)->Option Int)):Option (List Trip):=
Zb (za3 b (zo b) a) λy1=>
Ob y1
def zbY (a:((Trip×Trip)->Option Int)) (b:List (List Trip)):Option (List Trip):=
Zb (zap b) λy1=>
Zb (zY y1 a) λy3=>
Ob y3
def zeX (a:Int) (b:Int):Option Int:=
Zb (zbt a) λy1=>
Zb (zbt b) λy2=>
cond y1 (cond y2 (Ob 0) (Ob (-1))) (cond y2 (Ob 1) (cond (decide (a<b)) (Ob (-1)) (cond (decide (a>b)) (Ob 1) (Ob 0))))
def zc2 (b:Trip) (a:Trip):Option Int:=
Zb (zeX b.2.2.2.1 a.2.2.2.1) λy1=>
Ob y1
def zb5 (d:Plan) (c:Service) (e:List Works) (b:Int) (a:Int):Option (List Trip×Int):=
Zb (zcq d c) λy1=>
Zb (cond (!y1.2) (Ob Od) (Zb (zc1 d e) λy9=>
cond (!y9) (Ob Od) (Zb (z5 b 0 a) λyc=>
cond (!yc) (Ob Od) (Ob (decide (a>200000)))))) λc7=>
cond c7 (Ob ([],2)) (Zb (iter (σ:=(List (List Trip)×Int)) (τ:=List (List Trip)) (λsb=>
cond (decide (sb.2<zo y1.1)) (Zb (idx y1.1 sb.2) λxb=>
Zb (iter (σ:=(List (List Trip)×Int)) (τ:=List (List Trip)) (λsa=>
cond (decide (sa.2<2)) (Zb (idx c.2.1 sb.2) λxd=>
Zb (idx c.2.2.1 sb.2) λxe=>
Zb (zas xb sa.2 xd xe b) λya=>
Zb (zK (σ:=List Trip) (τ:=List Trip) (λsc xa=>
Zb (zA xb sa.2) λyd=>
cond (decide (w64 (xa.1+yd)>a)) (Ob (.inr sc)) (Zb (zaD xb sa.2 xa.1 e) λye=>
cond ye (Zb (zdi 32 sc ([((sb.2,(sa.2==1),xa.2,xa.1,()):Trip)])) λxf=>
Ob (.inl xf)) (Ob (.inl sc)))) ([]) ya.1 ya.2.1 ya.2.2.1 ya.2.2.2.1 ya.2.2.2.2) λta=>
alt (λba=>Zb (zdi 24 sa.1 ([ba])) λxg=>
Ob (.inl (xg,w64 (sa.2+1)))) (λbb=>Zb (zdi 24 sa.1 ([bb])) λxh=>
Ob (.inl (xh,w64 (sa.2+1)))) ta) (Ob (.inr sa.1))) big (sb.1,0)) λtb=>
Ob (.inl (tb,w64 (sb.2+1)))) (Ob (.inr sb.1))) big ([],0)) λtc=>
Zb (zbY (λx=>zc2 x.1 x.2) tc) λyb=>
cond (decide (zo yb>5000)) (Ob ([],3)) (Ob (yb,0)))
def zeA (a:Plan) (b:Service):Option Int:=
Zb (zcq a b) λy1=>
cond (!y1.2) (Ob 2) (Ob 0)
def zac (a:List Turnback) (b:(Turnback->Option Bool)):Option Int:=
Zb (iter (σ:=Int) (τ:=Unit⊕Int) (λs5=>
cond (decide (s5<zo a)) (Zb (idx a s5) λx8=>
Zb (b x8) λy9=>
cond y9 (Ob (.inr (.inr s5))) (Ob (.inl (w64 (s5+1))))) (Ob (.inr (.inl ())))) big 0) λta=>
alt (λbb=>Ob (-1)) (λba=>Ob ba) ta
def zar (a:List Turnback) (b:(Turnback->Option Bool)):Option Bool:=
Zb (zac a b) λy1=>
Ob (decide (y1>=0))
def zbF (c:Int) (b:Int) (a:Int):Option Bool:=
Zb (cond (decide (c>=b)) (Ob (decide (c<=a))) (Ob Oc)) λc4=>
Ob c4
def zaE (a:zM):Option Int:=
Ob (w64 (zo a.1.2.1-1))
def zdB (a:Bool):Option Int:=
cond a (Ob 1) (Ob 0)
def zaJ (a:Turnback) (b:zaS):Option Bool:=
Zb (Zb (zbF a.1 0 (w64 (zo b.2.1-1))) λy8=>
cond (!y8) (Ob Od) (Zb (zbF a.2.2.2.2.1 1 3600) λya=>
Ob (!ya))) λc7=>
cond c7 (Ob Od) (Zb (idx b.2.1 a.1) λxa=>
Zb (Zb (zdB a.2.1) λyb=>
Zb (idx xa yb) λxb=>
Zb (zaE xb) λyc=>
Zb (zbF a.2.2.1 1 (w64 (yc-1))) λyd=>
cond (!yd) (Ob Od) (Zb (zdB (!a.2.1)) λye=>
Zb (idx xa ye) λxd=>
Zb (zaE xd) λyf=>
Zb (zbF a.2.2.2.1 1 (w64 (yf-1))) λyg=>
Ob (!yg))) λca=>
Ob ca)
def zbl (a:zaS):Option Bool:=
Zb (cond (decide (zo a.1.2.2.2.2.2.1<=60)) (Zb (zar a.1.2.2.2.2.2.1 (λx=>zaJ x a)) λy6=>
Ob (!y6)) (Ob Oc)) λc4=>
Ob c4
def zci (a:Day):Option (Option zaS×Int):=
Zb (zeA a.1 a.2.1) λy1=>
cond (y1 !=0) (Ob ((Oe:Option zaS),2)) (Zb (iter (σ:=(Int×List (List zM))) (τ:=List (List zM)) (λsc=>
cond (decide (sc.1<zo a.2.1.1)) (Zb (idx a.2.1.1 sc.1) λxb=>
Zb (iter (σ:=(Int×List zM)) (τ:=List zM) (λsa=>
cond (decide (sa.1<2)) (Zb (idx ([xb.1,xb.2.1]:List Course) sa.1) λxd=>
Zb (zaf a.1 xb (sa.1==1)) λyb=>
Zb (idx sa.2 sa.1) λxg=>
Ob (.inl (w64 (sa.1+1),(sa.2).set (Int.toNat sa.1) ((xd,yb.1,()):zM)))) (Ob (.inr sa.2))) big (0,List.replicate 2 ((([],[],[],()),[],()):zM))) λtb=>
Zb (zdi 192 sc.2 ([tb])) λxe=>
Ob (.inl (w64 (sc.1+1),xe))) (Ob (.inr sc.2))) big (0,[])) λta=>
Zb (zbl (((a.1.1,a.1.2.1,()),(a.2.1.1,a.2.1.2.1,a.2.1.2.2.1,()),a.2.2.1,a.2.2.2.1,a.2.2.2.2.1,a.2.2.2.2.2.1,()),ta,[],([]:List (zx×List Int)),())) λyc=>
cond (!yc) (Ob ((Oe:Option zaS),2)) (Zb (zb5 a.1 a.2.1 a.2.2.1 a.2.2.2.1 a.2.2.2.2.1) λya=>
cond (ya.2 !=0) (Ob ((Oe:Option zaS),ya.2)) (cond (decide (zo ya.1>1000)) (Ob ((Oe:Option zaS),3)) (Zb (iter (σ:=(Int×List (zx×List Int))) (τ:=List (zx×List Int)) (λsb=>
cond (decide (sb.1<zo ya.1)) (Zb (idx ya.1 sb.1) λxa=>
Zb (zdi 8 ((mget sb.2 ((xa.1,xa.2.2.1,()):zx)).getD []) ([sb.1])) λxf=>
Ob (.inl (w64 (sb.1+1),mset sb.2 ((xa.1,xa.2.2.1,()):zx) xf))) (Ob (.inr sb.2))) big (0,([]:List (zx×List Int)))) λtc=>
Ob (Ob (((a.1.1,a.1.2.1,()),(a.2.1.1,a.2.1.2.1,a.2.1.2.2.1,()),a.2.2.1,a.2.2.2.1,a.2.2.2.2.1,a.2.2.2.2.2.1,()),ta,ya.1,tc,()),0)))))
def zct (a:Day):Option (List Trip×Int):=
Zb (zci a) λy1=>
cond (y1.2 !=0) (Ob ([],y1.2)) (Zb y1.1 λp3=>
Ob (p3.2.2.1,0))
def zbB (b:zaS) (a:Int):Option zM:=
Zb (idx b.2.2.1 a) λx2=>
Zb (zdB x2.2.1) λy7=>
Zb (idx b.2.1 x2.1) λx8=>
Zb (idx x8 y7) λx9=>
Ob x9
def zcA (c:zaS) (a:zM) (b:Int):Option Int:=
Zb (iter (σ:=(Int×Int)) (τ:=Unit⊕Int) (λs8=>
cond (decide (s8.2<zo a.1.1)) (Zb (idx a.1.1 s8.2) λxa=>
Zb (zbb c.1.1 xa.1) λya=>
Zb (idx a.1.2.1 b) λxb=>
cond (decide (xb<=w64 (s8.1+ya.1))) (Ob (.inr (.inr s8.2))) (Ob (.inl (w64 (s8.1+ya.1),w64 (s8.2+1))))) (Ob (.inr (.inl ())))) big (0,0)) λta=>
alt (λbb=>Ob (w64 (zo a.1.1-1))) (λba=>Ob ba) ta
def zaV (b:zM) (a:Int):Option Int:=
Zb (idx b.2.1 a) λx3=>
Zb (idx b.1.2.2.1 a) λx4=>
Ob (w64 (x3-x4))
def zbC {σ τ:Type} (step:σ->Use->Option (σ⊕τ)) (s_:σ) (a:zaS) (b:Int):Option (σ⊕τ):=
Zb (zbB a b) λy4=>
Zb (idx a.2.2.1 b) λx5=>
Zb (zaE y4) λy7=>
Zb (iter (σ:=(Int×(σ⊕τ))) (τ:=(σ⊕τ)⊕(σ⊕τ)) (λsa=>
cond (decide (sa.1<y7)) (Zb (zcA a y4 sa.1) λyb=>
Zb (zcA a y4 (w64 (sa.1+1))) λyd=>
Zb (cond (decide (sa.1>0)) (Zb (idx y4.1.2.2.1 sa.1) λxb=>
cond (decide (xb>0)) (Zb (idx y4.1.1 yb) λxd=>
Zb (zaV y4 sa.1) λye=>
Zb (idx y4.2.1 sa.1) λxe=>
Zb (goL sa.2) λsc=>
Zb (step sc ((xd.1,w64 (x5.2.2.2.1+ye),w64 (x5.2.2.2.1+xe),()):Use)) λyc=>
Ob ((!(yc).isLeft),yc)) (Ob (Oc,sa.2))) (Ob (Oc,sa.2))) λca=>
cond ca.1 (Ob (.inr (.inr ca.2))) (Zb (slO y4.1.1 yb (w64 (yd+1))) λxa=>
Zb (iter (σ:=(Int×(σ⊕τ))) (τ:=(σ⊕τ)⊕(σ⊕τ)) (λsb=>
cond (decide (sb.1<zo xa)) (Zb (idx xa sb.1) λxf=>
Zb (idx y4.2.1 sa.1) λxg=>
Zb (zaV y4 (w64 (sa.1+1))) λyf=>
Zb (goL sb.2) λsd=>
Zb (step sd ((xf.1,w64 (x5.2.2.2.1+xg),w64 (x5.2.2.2.1+yf),()):Use)) λya=>
cond (!(ya).isLeft) (Ob (.inr (.inr ya))) (Ob (.inl (w64 (sb.1+1),ya)))) (Ob (.inr (.inl sb.2)))) big (0,ca.2)) λta=>
alt (λba=>Ob (.inl (w64 (sa.1+1),ba))) (λbb=>Ob (.inr (.inr bb))) ta)) (Ob (.inr (.inl sa.2)))) big (0,(.inl s_))) λtb=>
alt (λbc=>Ob bc) (λbd=>Ob bd) tb
def zdp (b:zaS) (a:Int):Option (zaS×Int):=
Ob (b,a)
def zaL (a:(zaS×Int)):Option (List Use):=
Zb (zbC (σ:=List Use) (τ:=Unit) (λs9 x2=>
Zb (zdi 24 s9 ([x2])) λxa=>
Ob (.inl xa)) ([]) a.1 a.2) λta=>
Zb (goL ta) λba=>
Ob ba
def zb9 (a:(zaS×Int)):Option (List Use):=
Zb (zaL (a.1,a.2)) λy1=>
Ob y1
def zd0 (b:Day) (a:Int):Option (List Use×Int):=
Zb (zci b) λy1=>
Zb (cond (y1.2==2) (Ob Od) (cond (y1.2==0) (Zb y1.1 λp9=>
Zb (zbF a 0 (w64 (zo p9.2.2.1-1))) λyb=>
Ob (!yb)) (Ob Oc))) λc6=>
cond c6 (Ob ([],2)) (cond (y1.2 !=0) (Ob ([],y1.2)) (Zb y1.1 λpa=>
Zb (zdp pa a) λya=>
Zb (zb9 (ya.1,ya.2)) λyc=>
Ob (yc,0)))
def ze2 (a:Day):Option Bool:=
Zb (zdy a) λy2=>
cond (!y2) (Zb zdM λy4=>
Ob y4) (Zb (zct a) λy5=>
cond (y5.2 !=0) (Ob Oc) (Zb (iter (σ:=Int) (τ:=Unit⊕Bool) (λsd=>
cond (decide (sd<zo y5.1)) (Zb (zd0 a sd) λya=>
cond (ya.2 !=0) (Ob (.inr (.inr Oc))) (cond (zo ya.1==0) (Ob (.inr (.inr Oc))) (Zb (iter (σ:=Int) (τ:=Unit⊕Bool) (λsb=>
cond (decide (sb<zo ya.1)) (Zb (iter (σ:=Int) (τ:=Unit⊕Bool) (λsa=>
cond (decide (sa<zo a.2.2.1)) (Zb (idx ya.1 sb) λxa=>
Zb (idx a.2.2.1 sa) λxb=>
cond (xa.1==xb.1) (Zb (idx ya.1 sb) λxd=>
Zb (idx a.2.2.1 sa) λxe=>
Zb (idx ya.1 sb) λxf=>
Zb (idx a.2.2.1 sa) λxg=>
cond (decide (max xd.2.1 xe.2.1<min xf.2.2.1 xg.2.2.1)) (Ob (.inr (.inr Oc))) (Ob (.inl (w64 (sa+1))))) (Ob (.inl (w64 (sa+1))))) (Ob (.inr (.inl ())))) big 0) λta=>
alt (λbe=>Ob (.inl (w64 (sb+1)))) (λba=>Ob (.inr (.inr ba))) ta) (Ob (.inr (.inl ())))) big 0) λtb=>
alt (λbf=>Ob (.inl (w64 (sd+1)))) (λbb=>Ob (.inr (.inr bb))) tb))) (Ob (.inr (.inl ())))) big 0) λtc=>
alt (λbg=>Zb (zct ((a.1.1,a.1.2.1,()),(a.2.1.1,a.2.1.2.1,a.2.1.2.2.1,()),[],a.2.2.2.1,a.2.2.2.2.1,a.2.2.2.2.2.1,())) λyb=>
Zb (zb5 (a.1.1,a.1.2.1,()) (a.2.1.1,a.2.1.2.1,a.2.1.2.2.1,()) ([]) a.2.2.2.1 a.2.2.2.2.1) λyc=>
Zb (cond (yb.2 !=0) (Ob Od) (cond (yc.2 !=0) (Ob Od) (cond ((zo yb.1)!=zo yc.1) (Ob Od) (Ob (decide (zo y5.1>zo yb.1)))))) λca=>
cond ca (Ob Oc) (Zb (iter (σ:=Int) (τ:=Unit⊕Bool) (λsc=>
cond (decide (sc<zo yc.1)) (Zb (idx yb.1 sc) λxh=>
Zb (idx yc.1 sc) λxi=>
cond (xh !=xi) (Ob (.inr (.inr Oc))) (Ob (.inl (w64 (sc+1))))) (Ob (.inr (.inl ())))) big 0) λtd=>
alt (λbh=>Zb zdM λyd=>
Ob yd) (λbc=>Ob bc) td)) (λbd=>Ob bd) tc))
end Go.Ai.Sx