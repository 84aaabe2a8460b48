/- Motion: the first safe demand. -/
import Derived.Test.YtnngmijajnldlaaGreatX14
import Derived.Test.YtnngmijajnldlaaGreatX9
set_option linter.unusedSimpArgs false
set_option linter.unusedVariables false
set_option linter.unusedSectionVars false
open Option renaming some→Ob,none→Oe
open Bool renaming false→Oc,true→Od
open Option renaming bind->Zb,bind_some->Zs
namespace Go.Ai.Sx
def zyb (ok:Int->Bool):Nat->Int->Option Int
 | 0,_=>Oe
 | n+1,d=>if ok d then Ob d else zyb ok n (d-1)
theorem zn6 {ok:Int->Bool}:∀ {n:Nat} {d e:Int},zyb ok n d=Ob e->ok e=Od/\d-n<e/\e<=d
 | 0,_,_,h=>by cases h
 | n+1,d,e,h=>by
  rw [zyb] at h;split at h
  . rename_i hk;cases h;exact ⟨hk,by omega,by omega⟩
  . obtain ⟨h1,h2,h3⟩:=zn6 h;exact ⟨h1,by omega,by omega⟩
section
variable (p:Plan) (way:List zad) (t:Train) (st stop:Int)
def zfq (x:ze) (d:Int):zbl×Bool:=zfO t st x d (slS p way t x)
def okD (x:ze) (d:Int):Bool:=(zfq p way t st x d).2&&zqW p way t st stop (zfq p way t st x d).1.1
def zs4 (x:ze):Option Int:=zyb (okD p way t st stop x) 9 4
end
def zBO (s:zbl):Bool×Int×Int×Int×Int×Int×Int×Int×Int×Int×Int:=(Od,s.1.1,s.1.2.1,s.2.1.1,s.2.1.2.1,s.2.1.2.2.1,s.2.1.2.2.2.1,s.2.1.2.2.2.2.1,s.2.1.2.2.2.2.2.1,s.2.2.1,s.2.2.2.1)
section
variable {p:Plan} {way:List zad} {t:Train} {st:Int} {stops:List Int} {x:ze} (hp:zjr p) (hw:ziB p way) (ht:zk9 t) (hst:0<=st/\st<t.2.2.2.2.2.2.2.2.2.1.length)
include hp hw ht hst
theorem zkV (hx:0<=x.1/\x.1<=25000*t.1) (hwx:0<=x.2.1/\x.2.1<=500000000000000000) (stop:Int):zaZ (ziC p way t st stops) x stop=Ob (match zs4 p way t st stop x with | some d=>((zfq p way t st x d).1,Od) | none=>(((0,0,()),(0,0,0,0,0,0,()),0,0,()),Oc)):=by
  have hm:=ht.m;have hso:zsD t x:=⟨hx,⟨hwx.1,by omega⟩⟩;have hsl:=zmR hp hw ht hso (zaJ t x);unfold zaZ;rw [zvh hp hw ht hso,Zs];have key:∀ (n k:Nat),k+n=9->Lp (λs26:Bool×Int×Int×Int×Int×Int×Int×Int×Int×Int×Int×Int=>
cond (decide (s26.2.1<9)) (Zb (zaI (ziC p way t st stops).1 x (w64 (4-s26.2.1)) (zju p way (zaJ t x))) λy31=>
cond y31.2 (Zb (zcb (ziC p way t st stops) y31.1.1 stop) λy36=>
cond y36 (Ob (.inr ((Od,y31.1.1.1,y31.1.1.2.1,y31.1.2.1.1,y31.1.2.1.2.1,y31.1.2.1.2.2.1,y31.1.2.1.2.2.2.1,y31.1.2.1.2.2.2.2.1,y31.1.2.1.2.2.2.2.2.1,y31.1.2.2.1,y31.1.2.2.2.1):Bool×Int×Int×Int×Int×Int×Int×Int×Int×Int×Int))) (Ob (.inl (s26.1,w64 (s26.2.1+1),s26.2.2.1,s26.2.2.2.1,s26.2.2.2.2.1,s26.2.2.2.2.2.1,s26.2.2.2.2.2.2.1,s26.2.2.2.2.2.2.2.1,s26.2.2.2.2.2.2.2.2.1,s26.2.2.2.2.2.2.2.2.2.1,s26.2.2.2.2.2.2.2.2.2.2.1,s26.2.2.2.2.2.2.2.2.2.2.2)))) (Ob (.inl (s26.1,w64 (s26.2.1+1),s26.2.2.1,s26.2.2.2.1,s26.2.2.2.2.1,s26.2.2.2.2.2.1,s26.2.2.2.2.2.2.1,s26.2.2.2.2.2.2.2.1,s26.2.2.2.2.2.2.2.2.1,s26.2.2.2.2.2.2.2.2.2.1,s26.2.2.2.2.2.2.2.2.2.2.1,s26.2.2.2.2.2.2.2.2.2.2.2)))) (Ob (.inr (s26.1,s26.2.2.1,s26.2.2.2.1,s26.2.2.2.2.1,s26.2.2.2.2.2.1,s26.2.2.2.2.2.2.1,s26.2.2.2.2.2.2.2.1,s26.2.2.2.2.2.2.2.2.1,s26.2.2.2.2.2.2.2.2.2.1,s26.2.2.2.2.2.2.2.2.2.2.1,s26.2.2.2.2.2.2.2.2.2.2.2)))) n (Oc,(k:Int),0,0,0,0,0,0,0,0,0,0) (match zyb (okD p way t st stop x) n (4-k) with | some d=>zBO (zfq p way t st x d).1 | none=>(Oc,0,0,0,0,0,0,0,0,0,0)):=by
    intro n;induction n with
    | zero=>
      intro k hk;have:k=9:=J
      subst this;exact Lp.done rfl
    | succ n ih=>
      intro k hk;have hfin:ztR t st (4-k) (zju p way (zaJ t x)):=⟨hst,by omega,hsl⟩;have hstep:zaI (ziC p way t st stops).1 x (4-(k:Int)) (zju p way (zaJ t x))=Ob (zfq p way t st x (4-k)):=zpP ht hfin hso;have hnext:Lp _ _ _ _:=ih (k+1) J;rw [show (4-((k+1:Nat):Int))=4-(k:Int)-1 by omega] at hnext;have hok:okD p way t st stop x (4-k)=((zfq p way t st x (4-k)).2&&zqW p way t st stop (zfq p way t st x (4-k)).1.1):=rfl;rw [zyb,hok];cases h1:(zfq p way t st x (4-k)).2 with
      | false=>
        simp only [Bool.false_and,Bool.false_eq_true,if_false];refine Lp.step ?_ hnext;simp only [decide_eq_true (show (k:Int)<9 by omega),cond_true,zk (n:=4-(k:Int)) J J,hstep,Zs,h1,cond_false];rw [z7 J]
      | true=>
        obtain ⟨n1,n2⟩:=zkM ht hfin hx hso.w h1;have n1':0<=(zfq p way t st x (4-k)).1.1.1/\(zfq p way t st x (4-k)).1.1.1<=25000*t.1:=n1;have n2':(zfq p way t st x (4-k)).1.1.2.1=x.2.1+(zfq p way t st x (4-k)).1.1.1:=n2;have hsafe:=zya (stops:=stops) hp hw ht hst n1' J stop;cases h2:zqW p way t st stop (zfq p way t st x (4-k)).1.1 with
        | false=>
          simp only [Bool.and_false,Bool.false_eq_true,if_false];refine Lp.step ?_ hnext;simp only [decide_eq_true (show (k:Int)<9 by omega),cond_true,zk (n:=4-(k:Int)) J J,hstep,Zs,h1,hsafe,h2,cond_false];rw [z7 J]
        | true=>
          simp only [Bool.and_true,if_true];refine Lp.done ?_;simp only [decide_eq_true (show (k:Int)<9 by omega),cond_true,zk (n:=4-(k:Int)) J J,hstep,Zs,h1,hsafe,h2];rfl
  have hB:=(key 9 0 rfl).big Of;rw [show ((0:Nat):Int)=0 from rfl] at hB;refine (congrArg (λo=>Zb o λt39:Bool×Int×Int×Int×Int×Int×Int×Int×Int×Int×Int=>Ob ((((t39.2.1,t39.2.2.1,()),(t39.2.2.2.1,t39.2.2.2.2.1,t39.2.2.2.2.2.1,t39.2.2.2.2.2.2.1,t39.2.2.2.2.2.2.2.1,t39.2.2.2.2.2.2.2.2.1,()),t39.2.2.2.2.2.2.2.2.2.1,t39.2.2.2.2.2.2.2.2.2.2,()),t39.1):zbl×Bool)) hB).trans ?_;rw [Zs];unfold zs4;rw [show (4:Int)-0=4 from rfl];cases zyb (okD p way t st stop x) 9 4<;>rfl
end
def ztT (p_0:zaF) (p_2:Int):(Int×Int×Int×Int×Int×Int×Int×Int×Int×Int×Int×Int×Int×Int×Int×Int×Int×Int×Int×Int×Int×Int×Int×Int×Int)->Option ((Int×Int×Int×Int×Int×Int×Int×Int×Int×Int×Int×Int×Int×Int×Int×Int×Int×Int×Int×Int×Int×Int×Int×Int×Int)⊕(Bool×Int×Int×Int×Int×Int×Int×Int×Int×Int×Int×Int×Int×Int×Int×Int×Int×Int×Int×Int×Int×Int×Int×Int×Int)):=(λs77=>
Zb (z5 p_0.1 (s77.2.2.2.2.2.2.2.2.2.2.2.2.2.2.1,s77.2.2.2.2.2.2.2.2.2.2.2.2.2.2.2.1,())) λy80=>
cond (s77.2.2.2.2.2.2.2.2.2.2.2.2.2.2.1==0) (Zb (zW (w64 (p_2-y80)) 0 1000) λy84=>
cond y84 (Ob (.inr (Od,y80,s77.2.2.2.2.2.2.2.2.2.2.2.2.2.2.1,s77.2.2.2.2.2.2.2.2.2.2.2.2.2.2.2.1,s77.2.1,y80,s77.2.2.2.1,s77.2.2.2.2.1,s77.2.2.2.2.2.1,s77.2.2.2.2.2.2.1,s77.2.2.2.2.2.2.2.1,s77.2.2.2.2.2.2.2.2.1,s77.2.2.2.2.2.2.2.2.2.1,s77.2.2.2.2.2.2.2.2.2.2.1,s77.2.1,s77.2.2.2.1,s77.2.2.2.2.1,s77.2.2.2.2.2.1,s77.2.2.2.2.2.2.1,s77.2.2.2.2.2.2.2.1,s77.2.2.2.2.2.2.2.2.1,s77.2.2.2.2.2.2.2.2.2.1,s77.2.2.2.2.2.2.2.2.2.2.1,s77.2.2.2.2.2.2.2.2.2.2.2.2.2.2.1,s77.2.2.2.2.2.2.2.2.2.2.2.2.2.2.2.1))) (cond (s77.1==36000) (Ob (.inr (Oc,s77.2.2.1,s77.2.2.2.2.2.2.2.2.2.2.2.2.2.2.1,s77.2.2.2.2.2.2.2.2.2.2.2.2.2.2.2.1,s77.2.1,s77.2.2.1,s77.2.2.2.1,s77.2.2.2.2.1,s77.2.2.2.2.2.1,s77.2.2.2.2.2.2.1,s77.2.2.2.2.2.2.2.1,s77.2.2.2.2.2.2.2.2.1,s77.2.2.2.2.2.2.2.2.2.1,s77.2.2.2.2.2.2.2.2.2.2.1,s77.2.1,s77.2.2.2.1,s77.2.2.2.2.1,s77.2.2.2.2.2.1,s77.2.2.2.2.2.2.1,s77.2.2.2.2.2.2.2.1,s77.2.2.2.2.2.2.2.2.1,s77.2.2.2.2.2.2.2.2.2.1,s77.2.2.2.2.2.2.2.2.2.2.1,s77.2.2.2.2.2.2.2.2.2.2.2.2.2.2.1,s77.2.2.2.2.2.2.2.2.2.2.2.2.2.2.2.1))) (Zb (zaZ p_0 (s77.2.2.2.2.2.2.2.2.2.2.2.2.2.2.1,s77.2.2.2.2.2.2.2.2.2.2.2.2.2.2.2.1,()) p_2) λy87=>
cond (!y87.2) (Ob (.inr (Oc,s77.2.2.1,s77.2.2.2.2.2.2.2.2.2.2.2.2.2.2.1,s77.2.2.2.2.2.2.2.2.2.2.2.2.2.2.2.1,s77.2.1,s77.2.2.1,s77.2.2.2.1,s77.2.2.2.2.1,s77.2.2.2.2.2.1,s77.2.2.2.2.2.2.1,s77.2.2.2.2.2.2.2.1,s77.2.2.2.2.2.2.2.2.1,s77.2.2.2.2.2.2.2.2.2.1,s77.2.2.2.2.2.2.2.2.2.2.1,s77.2.1,s77.2.2.2.1,s77.2.2.2.2.1,s77.2.2.2.2.2.1,s77.2.2.2.2.2.2.1,s77.2.2.2.2.2.2.2.1,s77.2.2.2.2.2.2.2.2.1,s77.2.2.2.2.2.2.2.2.2.1,s77.2.2.2.2.2.2.2.2.2.2.1,s77.2.2.2.2.2.2.2.2.2.2.2.2.2.2.1,s77.2.2.2.2.2.2.2.2.2.2.2.2.2.2.2.1))) (cond (decide (y87.1.1.2.1>10000000000000000)) (Ob (.inr (Oc,s77.2.2.1,s77.2.2.2.2.2.2.2.2.2.2.2.2.2.2.1,s77.2.2.2.2.2.2.2.2.2.2.2.2.2.2.2.1,s77.2.1,s77.2.2.1,s77.2.2.2.1,s77.2.2.2.2.1,s77.2.2.2.2.2.1,s77.2.2.2.2.2.2.1,s77.2.2.2.2.2.2.2.1,s77.2.2.2.2.2.2.2.2.1,s77.2.2.2.2.2.2.2.2.2.1,s77.2.2.2.2.2.2.2.2.2.2.1,s77.2.1,s77.2.2.2.1,s77.2.2.2.2.1,s77.2.2.2.2.2.1,s77.2.2.2.2.2.2.1,s77.2.2.2.2.2.2.2.1,s77.2.2.2.2.2.2.2.2.1,s77.2.2.2.2.2.2.2.2.2.1,s77.2.2.2.2.2.2.2.2.2.2.1,s77.2.2.2.2.2.2.2.2.2.2.2.2.2.2.1,s77.2.2.2.2.2.2.2.2.2.2.2.2.2.2.2.1))) (Zb (zc6 ([(s77.2.2.2.1,s77.2.2.2.2.1,s77.2.2.2.2.2.1,s77.2.2.2.2.2.2.1,s77.2.2.2.2.2.2.2.1,s77.2.2.2.2.2.2.2.2.1,()),y87.1.2.1])) λy93=>
Ob (.inl (w64 (s77.1+1),w64 (s77.2.1+100),s77.2.2.1,y93.1,y93.2.1,y93.2.2.1,y93.2.2.2.1,y93.2.2.2.2.1,y93.2.2.2.2.2.1,max s77.2.2.2.2.2.2.2.2.2.1 y87.1.2.2.1,max s77.2.2.2.2.2.2.2.2.2.2.1 y87.1.2.2.2.1,s77.2.2.2.2.2.2.2.2.2.2.2.1,s77.2.2.2.2.2.2.2.2.2.2.2.2.1,s77.2.2.2.2.2.2.2.2.2.2.2.2.2.1,y87.1.1.1,y87.1.1.2.1,s77.2.2.2.2.2.2.2.2.2.2.2.2.2.2.2.2.1,s77.2.2.2.2.2.2.2.2.2.2.2.2.2.2.2.2.2.1,s77.2.2.2.2.2.2.2.2.2.2.2.2.2.2.2.2.2.2.1,s77.2.2.2.2.2.2.2.2.2.2.2.2.2.2.2.2.2.2.2.1,s77.2.2.2.2.2.2.2.2.2.2.2.2.2.2.2.2.2.2.2.2.1,s77.2.2.2.2.2.2.2.2.2.2.2.2.2.2.2.2.2.2.2.2.2.1,s77.2.2.2.2.2.2.2.2.2.2.2.2.2.2.2.2.2.2.2.2.2.2.1,s77.2.2.2.2.2.2.2.2.2.2.2.2.2.2.2.2.2.2.2.2.2.2.2.1,s77.2.2.2.2.2.2.2.2.2.2.2.2.2.2.2.2.2.2.2.2.2.2.2.2))))))) (cond (s77.1==36000) (Ob (.inr (Oc,s77.2.2.1,s77.2.2.2.2.2.2.2.2.2.2.2.2.2.2.1,s77.2.2.2.2.2.2.2.2.2.2.2.2.2.2.2.1,s77.2.1,s77.2.2.1,s77.2.2.2.1,s77.2.2.2.2.1,s77.2.2.2.2.2.1,s77.2.2.2.2.2.2.1,s77.2.2.2.2.2.2.2.1,s77.2.2.2.2.2.2.2.2.1,s77.2.2.2.2.2.2.2.2.2.1,s77.2.2.2.2.2.2.2.2.2.2.1,s77.2.1,s77.2.2.2.1,s77.2.2.2.2.1,s77.2.2.2.2.2.1,s77.2.2.2.2.2.2.1,s77.2.2.2.2.2.2.2.1,s77.2.2.2.2.2.2.2.2.1,s77.2.2.2.2.2.2.2.2.2.1,s77.2.2.2.2.2.2.2.2.2.2.1,s77.2.2.2.2.2.2.2.2.2.2.2.2.2.2.1,s77.2.2.2.2.2.2.2.2.2.2.2.2.2.2.2.1))) (Zb (zaZ p_0 (s77.2.2.2.2.2.2.2.2.2.2.2.2.2.2.1,s77.2.2.2.2.2.2.2.2.2.2.2.2.2.2.2.1,()) p_2) λy96=>
cond (!y96.2) (Ob (.inr (Oc,s77.2.2.1,s77.2.2.2.2.2.2.2.2.2.2.2.2.2.2.1,s77.2.2.2.2.2.2.2.2.2.2.2.2.2.2.2.1,s77.2.1,s77.2.2.1,s77.2.2.2.1,s77.2.2.2.2.1,s77.2.2.2.2.2.1,s77.2.2.2.2.2.2.1,s77.2.2.2.2.2.2.2.1,s77.2.2.2.2.2.2.2.2.1,s77.2.2.2.2.2.2.2.2.2.1,s77.2.2.2.2.2.2.2.2.2.2.1,s77.2.1,s77.2.2.2.1,s77.2.2.2.2.1,s77.2.2.2.2.2.1,s77.2.2.2.2.2.2.1,s77.2.2.2.2.2.2.2.1,s77.2.2.2.2.2.2.2.2.1,s77.2.2.2.2.2.2.2.2.2.1,s77.2.2.2.2.2.2.2.2.2.2.1,s77.2.2.2.2.2.2.2.2.2.2.2.2.2.2.1,s77.2.2.2.2.2.2.2.2.2.2.2.2.2.2.2.1))) (cond (decide (y96.1.1.2.1>10000000000000000)) (Ob (.inr (Oc,s77.2.2.1,s77.2.2.2.2.2.2.2.2.2.2.2.2.2.2.1,s77.2.2.2.2.2.2.2.2.2.2.2.2.2.2.2.1,s77.2.1,s77.2.2.1,s77.2.2.2.1,s77.2.2.2.2.1,s77.2.2.2.2.2.1,s77.2.2.2.2.2.2.1,s77.2.2.2.2.2.2.2.1,s77.2.2.2.2.2.2.2.2.1,s77.2.2.2.2.2.2.2.2.2.1,s77.2.2.2.2.2.2.2.2.2.2.1,s77.2.1,s77.2.2.2.1,s77.2.2.2.2.1,s77.2.2.2.2.2.1,s77.2.2.2.2.2.2.1,s77.2.2.2.2.2.2.2.1,s77.2.2.2.2.2.2.2.2.1,s77.2.2.2.2.2.2.2.2.2.1,s77.2.2.2.2.2.2.2.2.2.2.1,s77.2.2.2.2.2.2.2.2.2.2.2.2.2.2.1,s77.2.2.2.2.2.2.2.2.2.2.2.2.2.2.2.1))) (Zb (zc6 ([(s77.2.2.2.1,s77.2.2.2.2.1,s77.2.2.2.2.2.1,s77.2.2.2.2.2.2.1,s77.2.2.2.2.2.2.2.1,s77.2.2.2.2.2.2.2.2.1,()),y96.1.2.1])) λy102=>
Ob (.inl (w64 (s77.1+1),w64 (s77.2.1+100),s77.2.2.1,y102.1,y102.2.1,y102.2.2.1,y102.2.2.2.1,y102.2.2.2.2.1,y102.2.2.2.2.2.1,max s77.2.2.2.2.2.2.2.2.2.1 y96.1.2.2.1,max s77.2.2.2.2.2.2.2.2.2.2.1 y96.1.2.2.2.1,s77.2.2.2.2.2.2.2.2.2.2.2.1,s77.2.2.2.2.2.2.2.2.2.2.2.2.1,s77.2.2.2.2.2.2.2.2.2.2.2.2.2.1,y96.1.1.1,y96.1.1.2.1,s77.2.2.2.2.2.2.2.2.2.2.2.2.2.2.2.2.1,s77.2.2.2.2.2.2.2.2.2.2.2.2.2.2.2.2.2.1,s77.2.2.2.2.2.2.2.2.2.2.2.2.2.2.2.2.2.2.1,s77.2.2.2.2.2.2.2.2.2.2.2.2.2.2.2.2.2.2.2.1,s77.2.2.2.2.2.2.2.2.2.2.2.2.2.2.2.2.2.2.2.2.1,s77.2.2.2.2.2.2.2.2.2.2.2.2.2.2.2.2.2.2.2.2.2.1,s77.2.2.2.2.2.2.2.2.2.2.2.2.2.2.2.2.2.2.2.2.2.2.1,s77.2.2.2.2.2.2.2.2.2.2.2.2.2.2.2.2.2.2.2.2.2.2.2.1,s77.2.2.2.2.2.2.2.2.2.2.2.2.2.2.2.2.2.2.2.2.2.2.2.2)))))))
def ztU:(Bool×Int×Int×Int×Int×Int×Int×Int×Int×Int×Int×Int×Int×Int×Int×Int×Int×Int×Int×Int×Int×Int×Int×Int×Int)->Option (Leg×ze×Bool):=λt103=>
Ob ((t103.2.2.2.2.1,t103.2.2.2.2.2.1,(t103.2.2.2.2.2.2.1,t103.2.2.2.2.2.2.2.1,t103.2.2.2.2.2.2.2.2.1,t103.2.2.2.2.2.2.2.2.2.1,t103.2.2.2.2.2.2.2.2.2.2.1,t103.2.2.2.2.2.2.2.2.2.2.2.1,()),t103.2.2.2.2.2.2.2.2.2.2.2.2.1,t103.2.2.2.2.2.2.2.2.2.2.2.2.2.1,()),(t103.2.2.1,t103.2.2.2.1,()),t103.1)
theorem zyc (a b:Int):w64 (w64 a+b)=w64 (a+b):=by
 simp only [w64,IntKind.wrap,IntKind.bits,IntKind.signed]; simp; omega
def zwi (l m:zbh):zbh:=(w64 (l.1+m.1),w64 (l.2.1+m.2.1),w64 (l.2.2.1+m.2.2.1),w64 (l.2.2.2.1+m.2.2.2.1),w64 (l.2.2.2.2.1+m.2.2.2.2.1),w64 (l.2.2.2.2.2.1+m.2.2.2.2.2.1),())
theorem zwj (l m:zbh):zc6 [l,m]=Ob (zwi l m):=by
 unfold zc6;have hL:Lp (λs9:Int×Int×Int×Int×Int×Int×Int=>
cond (decide (s9.1<zq [l,m])) (Zb (idx [l,m] s9.1) λx12=>
Ob (.inl (w64 (s9.1+1),w64 (s9.2.1+x12.1),w64 (s9.2.2.1+x12.2.1),w64 (s9.2.2.2.1+x12.2.2.1),w64 (s9.2.2.2.2.1+x12.2.2.2.1),w64 (s9.2.2.2.2.2.1+x12.2.2.2.2.1),w64 (s9.2.2.2.2.2.2+x12.2.2.2.2.2.1)))) (Ob (.inr (s9.2.1,s9.2.2.1,s9.2.2.2.1,s9.2.2.2.2.1,s9.2.2.2.2.2.1,s9.2.2.2.2.2.2)))) 2 (0,0,0,0,0,0,0) (w64 (w64 (0+l.1)+m.1),w64 (w64 (0+l.2.1)+m.2.1),w64 (w64 (0+l.2.2.1)+m.2.2.1),w64 (w64 (0+l.2.2.2.1)+m.2.2.2.1),w64 (w64 (0+l.2.2.2.2.1)+m.2.2.2.2.1),w64 (w64 (0+l.2.2.2.2.2.1)+m.2.2.2.2.2.1)):=Lp.step rfl (Lp.step rfl (Lp.done rfl))
 rw [hL.big Of,Zs];simp only [zyc,Int.zero_add];rfl
section
variable (p:Plan) (way:List zad) (t:Train) (st stop:Int)
def zqX (x:ze):Bool:=x.1==0&&decide (stop-zaJ t x<=1000)
def zl0:Nat->Int->zbh->Int->Int->ze->Option (Leg×ze)
 | 0,tm,l,a,b,x=>if zqX t stop x then Ob ((tm,zaJ t x,l,a,b,()),x) else Oe
 | n+1,tm,l,a,b,x=>if zqX t stop x then Ob ((tm,zaJ t x,l,a,b,()),x) else
  match zs4 p way t st stop x with
  | none=>Oe
  | some d=>zl0 n (tm+100) (zwi l (zfq p way t st x d).1.2.1) (max a (zfq p way t st x d).1.2.2.1) (max b (zfq p way t st x d).1.2.2.2.1) (zfq p way t st x d).1.1
end
structure zmT (t:Train) (stop:Int) (x:ze):Prop where
 p:0<=x.1/\x.1<=25000*t.1
 w:10*t.1<=x.2.1/\x.2.1<=100000000000000000
 s:zaJ t x<=stop
section
variable {p:Plan} {way:List zad} {t:Train} {st:Int} {stops:List Int} {x:ze} (hp:zjr p) (hw:ziB p way) (ht:zk9 t) (hst:0<=st/\st<t.2.2.2.2.2.2.2.2.2.1.length) {stop:Int} (hS:stop<=100000000000)
include hp hw ht hst hS
theorem zkW (hx:zmT t stop x) {d:Int} (hd:zs4 p way t st stop x=Ob d):zmT t stop (zfq p way t st x d).1.1/\(zfq p way t st x d).1.1.2.1=x.2.1+(zfq p way t st x d).1.1.1/\zkU p way t stop (zfq p way t st x d).1.1=Od:=by
 obtain ⟨h1,h2,h3⟩:=zn6 hd;unfold okD at h1;rw [Bool.and_eq_true] at h1;have hm:=ht.m;have hxw:=hx.w;have hso:zsD t x:=⟨hx.p,⟨by omega,by omega⟩⟩;have hfin:ztR t st d (slS p way t x):=⟨hst,by omega,zmR hp hw ht hso _⟩;obtain ⟨n1,n2⟩:=zkM ht hfin hx.p hso.w h1.1;have hs:=h1.2;unfold zqW at hs;rw [Bool.and_eq_true] at hs;have hf:=hs.1;unfold zkU at hf;rw [Bool.and_eq_true,decide_eq_true_eq] at hf;refine ⟨⟨n1, ?_,hf.1⟩,n2,hs.1⟩;have n2':(zfq p way t st x d).1.1.2.1=x.2.1+(zfq p way t st x d).1.1.1:=n2;have n1':0<=(zfq p way t st x d).1.1.1/\(zfq p way t st x d).1.1.1<=25000*t.1:=n1;refine ⟨by omega, ?_⟩;have h5:=hf.1;unfold zaJ at h5;have h6:(zfq p way t st x d).1.1.2.1<(stop+1)*(10*t.1):=(Int.ediv_lt_iff_lt_mul J).1 J;by_cases h0:0<=stop+1
 . have h7:=zez (a:=stop+1) (b:=10*t.1) (A:=100000000001) (B:=800000) ⟨h0,by omega⟩ ⟨by omega,by omega⟩;omega
 . have h8:=Int.mul_nonneg (a:=-(stop+1)) (b:=10*t.1) J J;rw [Int.neg_mul] at h8;omega
theorem zp0:∀ (n:Nat) (tm:Int) (l:zbh) (a b:Int) (x:ze) (g:Leg) (y:ze),zmT t stop x->zl0 p way t st stop n tm l a b x=Ob (g,y)->x.2.1<=y.2.1:=by
 intro n;induction n with
 | zero=>
  intro tm l a b x g y hx h;unfold zl0 at h;split at h
  . cases h; exact Int.le_refl _
  . cases h
 | succ n ih=>
  intro tm l a b x g y hx h;unfold zl0 at h;split at h
  . cases h; exact Int.le_refl _
  . cases hd:zs4 p way t st stop x with
    | none=>rw [hd] at h; cases h
    | some d=>
     rw [hd] at h;obtain ⟨n1,n2,_⟩:=zkW hp hw ht hst hS hx hd;have h3:=ih _ _ _ _ _ _ _ n1 h;have:=n1.p;omega
section
variable {k:Nat} {tm l1 l2 l3 l4 l5 l6 a b v w:Int} (hx:zmT t stop (v,w,()))
include hx
omit hp hw hst in
theorem zjT:zsD t (v,w,())/\z5 (ziC p way t st stops).1 (v,w,())=Ob (zaJ t (v,w,()))/\zgJ t (v,w,())=Ob (zaJ t (v,w,()))/\0<=zaJ t (v,w,()):=by
 have hm:=ht.m;have hxw:10*t.1<=w/\w<=100000000000000000:=hx.w;have hso:zsD t (v,w,()):=⟨hx.p,⟨by show 0<=w; omega,by show w<=_; omega⟩⟩;have h0:0<=w/(10*t.1):=Int.ediv_nonneg J J;exact ⟨hso,(zkL ht hso st).1,(zkL ht hso st).2,h0⟩
theorem zmU (ha:zqX t stop (v,w,())=Od):∃ T,ztT (ziC p way t st stops) stop ((k:Int),tm,0,l1,l2,l3,l4,l5,l6,a,b,0,0,0,v,w,0,0,0,0,0,0,0,0,0)=Ob (.inr T)/\ztU T=Ob ((tm,zaJ t (v,w,()),(l1,l2,l3,l4,l5,l6,()),a,b,()),(v,w,()),Od):=by
 obtain ⟨_,e0,_,h0⟩:=zjT (stops:=stops) (st:=st) (p:=p) (way:=way) ht hS hx;have hs:=hx.s;unfold zqX at ha;rw [Bool.and_eq_true,beq_iff_eq,decide_eq_true_eq] at ha;obtain ⟨ha1,ha2⟩:=ha;have ha1:v=0:=ha1;subst ha1;have hin:inB (stop-zaJ t (0,w,())) 0 1000=Od:=zas.2 J;unfold ztT;simp only [e0,Zs,show ((0:Int)==0)=Od from rfl,cond_true,mwithin,zk (n:=stop-zaJ t (0,w,())) J J,hin];exact ⟨_,rfl,rfl⟩
theorem zmV (ha:zqX t stop (v,w,())=Oc) (hk:k=36000\/zs4 p way t st stop (v,w,())=Oe):∃ T,ztT (ziC p way t st stops) stop ((k:Int),tm,0,l1,l2,l3,l4,l5,l6,a,b,0,0,0,v,w,0,0,0,0,0,0,0,0,0)=Ob (.inr T)/\∃ L X,ztU T=Ob (L,X,Oc):=by
 obtain ⟨hso,e0,_,h0⟩:=zjT (stops:=stops) (st:=st) (p:=p) (way:=way) ht hS hx;have hs:=hx.s;have hm:=ht.m;have hxw:10*t.1<=w/\w<=100000000000000000:=hx.w;have hc:=zkV (stops:=stops) hp hw ht hst hx.p (show 0<=((v,w,()):ze).2.1/\((v,w,()):ze).2.1<=500000000000000000 from ⟨by show 0<=w; omega,by show w<=_; omega⟩) stop;unfold ztT;by_cases hv:v=0
 . subst hv;have hin:inB (stop-zaJ t (0,w,())) 0 1000=Oc:=by
    cases h:inB (stop-zaJ t (0,w,())) 0 1000 with
    | false=>rfl
    | true=>
     have:=zas.1 h;unfold zqX at ha;rw [decide_eq_true J] at ha;cases ha
   simp only [e0,Zs,show ((0:Int)==0)=Od from rfl,cond_true,mwithin,zk (n:=stop-zaJ t (0,w,())) J J,hin,cond_false];by_cases hk0:k=36000
   . subst hk0;exact ⟨_,rfl,_,_,rfl⟩
   . have hkb:((k:Int)==36000)=Oc:=by simp; omega
     have hd:=hk.resolve_left hk0;rw [hd] at hc;simp only [hkb,cond_false,hc,Zs,Bool.not_false,cond_true];exact ⟨_,rfl,_,_,rfl⟩
 . have hvb:(v==0)=Oc:=by simpa using hv
   simp only [e0,Zs,hvb,cond_false];by_cases hk0:k=36000
   . subst hk0;exact ⟨_,rfl,_,_,rfl⟩
   . have hkb:((k:Int)==36000)=Oc:=by simp; omega
     have hd:=hk.resolve_left hk0;rw [hd] at hc;simp only [hkb,cond_false,hc,Zs,Bool.not_false,cond_true];exact ⟨_,rfl,_,_,rfl⟩
theorem zyd (ha:zqX t stop (v,w,())=Oc) (hk:k<36000) (htm:0<=tm/\tm<=3600000) {d:Int} (hd:zs4 p way t st stop (v,w,())=Ob d) (hfar:(zfq p way t st (v,w,()) d).1.1.2.1<=10000000000000000):ztT (ziC p way t st stops) stop ((k:Int),tm,0,l1,l2,l3,l4,l5,l6,a,b,0,0,0,v,w,0,0,0,0,0,0,0,0,0)=Ob (.inl (((k+1:Nat):Int),tm+100,0,(zwi (l1,l2,l3,l4,l5,l6,()) (zfq p way t st (v,w,()) d).1.2.1).1,(zwi (l1,l2,l3,l4,l5,l6,()) (zfq p way t st (v,w,()) d).1.2.1).2.1,(zwi (l1,l2,l3,l4,l5,l6,()) (zfq p way t st (v,w,()) d).1.2.1).2.2.1,(zwi (l1,l2,l3,l4,l5,l6,()) (zfq p way t st (v,w,()) d).1.2.1).2.2.2.1,(zwi (l1,l2,l3,l4,l5,l6,()) (zfq p way t st (v,w,()) d).1.2.1).2.2.2.2.1,(zwi (l1,l2,l3,l4,l5,l6,()) (zfq p way t st (v,w,()) d).1.2.1).2.2.2.2.2.1,max a (zfq p way t st (v,w,()) d).1.2.2.1,max b (zfq p way t st (v,w,()) d).1.2.2.2.1,0,0,0,(zfq p way t st (v,w,()) d).1.1.1,(zfq p way t st (v,w,()) d).1.1.2.1,0,0,0,0,0,0,0,0,0)):=by
 obtain ⟨hso,e0,_,h0⟩:=zjT (stops:=stops) (st:=st) (p:=p) (way:=way) ht hS hx;have hs:=hx.s;have hm:=ht.m;have hxw:10*t.1<=w/\w<=100000000000000000:=hx.w;have hc:=zkV (stops:=stops) hp hw ht hst hx.p (show 0<=((v,w,()):ze).2.1/\((v,w,()):ze).2.1<=500000000000000000 from ⟨by show 0<=w; omega,by show w<=_; omega⟩) stop;have hkb:((k:Int)==36000)=Oc:=by simp; omega
 rw [hd] at hc;unfold ztT;by_cases hv:v=0
 . subst hv;have hin:inB (stop-zaJ t (0,w,())) 0 1000=Oc:=by
    cases h:inB (stop-zaJ t (0,w,())) 0 1000 with
    | false=>rfl
    | true=>
     have:=zas.1 h;unfold zqX at ha;rw [decide_eq_true J] at ha;cases ha
   simp only [e0,Zs,show ((0:Int)==0)=Od from rfl,cond_true,mwithin,zk (n:=stop-zaJ t (0,w,())) J J,hin,cond_false,hkb,hc,Bool.not_true,decide_eq_false (show ¬ (zfq p way t st (0,w,()) d).1.1.2.1>10000000000000000 by omega),zwj,z7 (show k<9223372036854775807 by omega),zk (n:=tm+100) J J]
 . have hvb:(v==0)=Oc:=by simpa using hv
   simp only [e0,Zs,hvb,cond_false,hkb,hc,Bool.not_true,decide_eq_false (show ¬ (zfq p way t st (v,w,()) d).1.1.2.1>10000000000000000 by omega),zwj,z7 (show k<9223372036854775807 by omega),zk (n:=tm+100) J J]
theorem zp1 (ha:zqX t stop (v,w,())=Oc) (hk:k<36000) (htm:0<=tm/\tm<=3600000) {d:Int} (hd:zs4 p way t st stop (v,w,())=Ob d) (hfar:10000000000000000<(zfq p way t st (v,w,()) d).1.1.2.1):∃ T,ztT (ziC p way t st stops) stop ((k:Int),tm,0,l1,l2,l3,l4,l5,l6,a,b,0,0,0,v,w,0,0,0,0,0,0,0,0,0)=Ob (.inr T)/\∃ L X,ztU T=Ob (L,X,Oc):=by
 obtain ⟨hso,e0,_,h0⟩:=zjT (stops:=stops) (st:=st) (p:=p) (way:=way) ht hS hx;have hs:=hx.s;have hm:=ht.m;have hxw:10*t.1<=w/\w<=100000000000000000:=hx.w;have hc:=zkV (stops:=stops) hp hw ht hst hx.p (show 0<=((v,w,()):ze).2.1/\((v,w,()):ze).2.1<=500000000000000000 from ⟨by show 0<=w; omega,by show w<=_; omega⟩) stop;have hkb:((k:Int)==36000)=Oc:=by simp; omega
 rw [hd] at hc;unfold ztT;by_cases hv:v=0
 . subst hv;have hin:inB (stop-zaJ t (0,w,())) 0 1000=Oc:=by
    cases h:inB (stop-zaJ t (0,w,())) 0 1000 with
    | false=>rfl
    | true=>
     have:=zas.1 h;unfold zqX at ha;rw [decide_eq_true J] at ha;cases ha
   simp only [e0,Zs,show ((0:Int)==0)=Od from rfl,cond_true,mwithin,zk (n:=stop-zaJ t (0,w,())) J J,hin,cond_false,hkb,hc,Bool.not_true,decide_eq_true (show (zfq p way t st (0,w,()) d).1.1.2.1>10000000000000000 from hfar),cond_true];exact ⟨_,rfl,_,_,rfl⟩
 . have hvb:(v==0)=Oc:=by simpa using hv
   simp only [e0,Zs,hvb,cond_false,hkb,hc,Bool.not_true,decide_eq_true (show (zfq p way t st (v,w,()) d).1.1.2.1>10000000000000000 from hfar),cond_true];exact ⟨_,rfl,_,_,rfl⟩
end
theorem zvl:∀ (n k:Nat) (tm l1 l2 l3 l4 l5 l6 a b v w:Int),k+n=36000->tm=100*k->zmT t stop (v,w,())->w<=10000000000000000->∃ T,Lp (ztT (ziC p way t st stops) stop) n ((k:Int),tm,0,l1,l2,l3,l4,l5,l6,a,b,0,0,0,v,w,0,0,0,0,0,0,0,0,0) T/\(match zl0 p way t st stop n tm (l1,l2,l3,l4,l5,l6,()) a b (v,w,()) with | some (g,y)=>(y.2.1<=10000000000000000->ztU T=Ob (g,y,Od))/\(10000000000000000<y.2.1->∃ L X,ztU T=Ob (L,X,Oc)) | none=>∃ L X,ztU T=Ob (L,X,Oc)):=by
 intro n;induction n with
 | zero=>
  intro k tm l1 l2 l3 l4 l5 l6 a b v w hk htm hx h16;unfold zl0;cases ha:zqX t stop (v,w,()) with
  | true=>
   obtain ⟨T,h1,h2⟩:=zmU (stops:=stops) (k:=k) (tm:=tm) (l1:=l1) (l2:=l2) (l3:=l3) (l4:=l4) (l5:=l5) (l6:=l6) (a:=a) (b:=b) hp hw ht hst hS hx ha;exact ⟨T,Lp.done h1,λ_=>h2,λh=>absurd h (by show ¬ 10000000000000000<w; omega)⟩
  | false=>
   obtain ⟨T,h1,h2⟩:=zmV (stops:=stops) (k:=k) (tm:=tm) (l1:=l1) (l2:=l2) (l3:=l3) (l4:=l4) (l5:=l5) (l6:=l6) (a:=a) (b:=b) hp hw ht hst hS hx ha (.inl J);exact ⟨T,Lp.done h1,h2⟩
 | succ n ih=>
  intro k tm l1 l2 l3 l4 l5 l6 a b v w hk htm hx h16;unfold zl0;cases ha:zqX t stop (v,w,()) with
  | true=>
   obtain ⟨T,h1,h2⟩:=zmU (stops:=stops) (k:=k) (tm:=tm) (l1:=l1) (l2:=l2) (l3:=l3) (l4:=l4) (l5:=l5) (l6:=l6) (a:=a) (b:=b) hp hw ht hst hS hx ha;exact ⟨T,Lp.done h1,λ_=>h2,λh=>absurd h (by show ¬ 10000000000000000<w; omega)⟩
  | false=>
   cases hd:zs4 p way t st stop (v,w,()) with
   | none=>
    obtain ⟨T,h1,h2⟩:=zmV (stops:=stops) (k:=k) (tm:=tm) (l1:=l1) (l2:=l2) (l3:=l3) (l4:=l4) (l5:=l5) (l6:=l6) (a:=a) (b:=b) hp hw ht hst hS hx ha (.inr hd);exact ⟨T,Lp.done h1,h2⟩
   | some d=>
    by_cases hf:(zfq p way t st (v,w,()) d).1.1.2.1<=10000000000000000
    ·have h1:=zyd (stops:=stops) (k:=k) (tm:=tm) (l1:=l1) (l2:=l2) (l3:=l3) (l4:=l4) (l5:=l5) (l6:=l6) (a:=a) (b:=b) hp hw ht hst hS hx ha J J hd hf;obtain ⟨T,h2,h3⟩:=ih (k+1) (tm+100) _ _ _ _ _ _ (max a (zfq p way t st (v,w,()) d).1.2.2.1) (max b (zfq p way t st (v,w,()) d).1.2.2.2.1) (zfq p way t st (v,w,()) d).1.1.1 (zfq p way t st (v,w,()) d).1.1.2.1 J J (zkW hp hw ht hst hS hx hd).1 hf;exact ⟨T,Lp.step h1 h2,h3⟩
    ·obtain ⟨T,h1,h2⟩:=zp1 (stops:=stops) (k:=k) (tm:=tm) (l1:=l1) (l2:=l2) (l3:=l3) (l4:=l4) (l5:=l5) (l6:=l6) (a:=a) (b:=b) hp hw ht hst hS hx ha J J hd J;refine ⟨T,Lp.done h1, ?_⟩;simp only [];split
     ·rename_i g y hl;have h3:=zp0 hp hw ht hst hS _ _ _ _ _ _ _ _ (zkW hp hw ht hst hS hx hd).1 hl;exact ⟨λh=>absurd h J,λ_=>h2⟩
     ·exact h2
theorem zz1 (hx:zmT t stop x) (h16:x.2.1<=10000000000000000):∃ L X,zaL (ziC p way t st stops) x stop=Ob (match zl0 p way t st stop 36000 0 (0,0,0,0,0,0,()) 0 0 x with | some (g,y)=>if y.2.1<=10000000000000000 then (g,y,Od) else (L,X,Oc) | none=>(L,X,Oc)):=by
 obtain ⟨T,h1,h2⟩:=zvl (stops:=stops) hp hw ht hst hS 36000 0 0 0 0 0 0 0 0 0 0 x.1 x.2.1 J J hx h16;have hB:=h1.big Of;have e:zaL (ziC p way t st stops) x stop=ztU T:=(congrArg (λo=>Zb o ztU) hB);rw [e];have e2:((x.1,x.2.1,()):ze)=x:=rfl;rw [e2] at h2;cases hl:zl0 p way t st stop 36000 0 (0,0,0,0,0,0,()) 0 0 x with
 | some g=>
  rw [hl] at h2;obtain ⟨q1,q2⟩:=h2;by_cases hy:g.2.2.1<=10000000000000000
  ·refine ⟨default,default, ?_⟩;simp only [if_pos hy];exact q1 hy
  ·obtain ⟨L,X,q⟩:=q2 J;refine ⟨L,X, ?_⟩;simp only [if_neg hy];exact q
 | none=>
  rw [hl] at h2;obtain ⟨L,X,h2⟩:=h2;exact ⟨L,X,h2⟩
theorem zye (hx:zmT t stop x) (h16:10000000000000000<x.2.1):∃ R,zaL (ziC p way t st stops) x stop=Ob R:=by
 have key:∃ T R,ztT (ziC p way t st stops) stop (((0:Nat):Int),0,0,0,0,0,0,0,0,0,0,0,0,0,x.1,x.2.1,0,0,0,0,0,0,0,0,0)=Ob (.inr T)/\ztU T=Ob R:=by
  have hx':zmT t stop (x.1,x.2.1,()):=hx;cases ha:zqX t stop (x.1,x.2.1,()) with
  | true=>
   obtain ⟨T,h1,h2⟩:=zmU (stops:=stops) (k:=0) (tm:=0) (l1:=0) (l2:=0) (l3:=0) (l4:=0) (l5:=0) (l6:=0) (a:=0) (b:=0) hp hw ht hst hS hx' ha;exact ⟨T,_,h1,h2⟩
  | false=>
   cases hd:zs4 p way t st stop (x.1,x.2.1,()) with
   | none=>
    obtain ⟨T,h1,L,X,h2⟩:=zmV (stops:=stops) (k:=0) (tm:=0) (l1:=0) (l2:=0) (l3:=0) (l4:=0) (l5:=0) (l6:=0) (a:=0) (b:=0) hp hw ht hst hS hx' ha (.inr hd);exact ⟨T,_,h1,h2⟩
   | some d=>
    obtain ⟨n1,n2,_⟩:=zkW hp hw ht hst hS hx' hd;have n2':(zfq p way t st (x.1,x.2.1,()) d).1.1.2.1=x.2.1+(zfq p way t st (x.1,x.2.1,()) d).1.1.1:=n2;have:=n1.p;obtain ⟨T,h1,L,X,h2⟩:=zp1 (stops:=stops) (k:=0) (tm:=0) (l1:=0) (l2:=0) (l3:=0) (l4:=0) (l5:=0) (l6:=0) (a:=0) (b:=0) hp hw ht hst hS hx' ha J J hd J;exact ⟨T,_,h1,h2⟩
 obtain ⟨T,R,h1,h2⟩:=key;have hB:=(Lp.done (N:=0) h1).big Of;refine ⟨R, ?_⟩;rw [← h2];exact (congrArg (λo=>Zb o ztU) hB)
end
section
variable {p:Plan} {way:List zad} {t:Train} {st:Int} {stops:List Int} {x:ze} (hp:zjr p) (hw:ziB p way) (ht:zk9 t) (hst:0<=st/\st<t.2.2.2.2.2.2.2.2.2.1.length) {stop:Int} (hS:stop<=100000000000) {i:Int} (hi:idx stops i=Ob stop) (hi0:0<=i/\i<=1000000) (hs0:0<=stop)
include hp hw ht hst hS hi hi0 hs0
section
variable {k:Nat} {tm l1 l2 l3 l4 l5 l6 a b v w:Int} (hx:zmT t stop (v,w,()))
include hx
end
end
def zei (stops:List Int) (k:Nat):Int:=stops.getD k 0
def zAN (stops:List Int):Bool:=(List.range (stops.length-1)).all λk=>!decide (zei stops (k+1)<=zei stops k)
def zhJ (p:Plan) (way:List zad) (t:Train) (st:Int) (stops:List Int):Bool:=
 zbJ p&&(zm3 p way&&(trB t&&(inB st 0 (t.2.2.2.2.2.2.2.2.2.1.length-1)&&(inB (zq stops) 2 100&&(!decide (zei stops 0<t.2.1)&&(zAN stops&&decide (zei stops (stops.length-1)<=wlS p way)))))))
theorem zvm {stops:List Int} (hl:2<=stops.length/\stops.length<=100) {τ:Type} (r0 r1:τ) {F:Int->Option (Int⊕τ)}
 (hF:∀ s,F s=cond (decide (s<zq stops)) (Zb (idx stops s) λx37=>
Zb (idx stops (w64 (s-1))) λx38=>
cond (decide (x37<=x38)) (Ob (.inr r0)) (Ob (.inl (w64 (s+1))))) (Ob (.inr r1))):iter F big 1=Ob (if zAN stops then r1 else r0):=by
 refine zkI (λk=>((k+1:Nat):Int)) (stops.length-1) (λk=>!decide (zei stops (k+1)<=zei stops k)) r0 r1 rfl Of (λk hk=>?_) ?_
 . rw [hF,za5 (show k+1<stops.length by omega),cond_true,zI 0 J,Zs,show w64 (((k+1:Nat):Int)-1)=(k:Int) by rw [zk J J]; omega,zI 0 J,Zs,z7 J];show cond (decide (zei stops (k+1)<=zei stops k)) _ _=_;cases decide (zei stops (k+1)<=zei stops k)<;>rfl
 . rw [hF,show stops.length-1+1=stops.length by omega,zba]; rfl
theorem zp2 {A:Type} (n:Nat) (f:Nat->A):rlN (n+1) f=rlN n f++[f n]:=by
 unfold rlN;rw [List.range_succ,List.map_append]; rfl
theorem zyf {stops:List Int} (hl:2<=stops.length/\stops.length<=100):idx stops (w64 (zq stops-1))=Ob (zei stops (stops.length-1)):=by
 rw [zo,show w64 ((stops.length:Int)-1)=((stops.length-1:Nat):Int) by rw [zk J J]; omega];exact zI 0 J
theorem zvn {p:Plan} {way:List zad} {t:Train} (hv:zbJ p=Od) (hp:zjr p) (hw:ziB p way):iter (σ:=(Int×Int×List Int×List Int×List Int)) (τ:=(List Int×List Int×List Int)⊕(Option zaF×Bool×List Int×List Int×List Int)) (λs110=>
cond (decide (s110.2.1<zq way)) (Zb (idx way s110.2.1) λx113=>
Zb (zb3 p x113.1) λy115=>
cond (y115.2 !=0) (Ob (.inr (.inr ((Oe:Option zaF),Oc,s110.2.2.2.2,s110.2.2.2.1,s110.2.2.1)))) (Zb (idx p.2.1 x113.1) λx117=>
cond x113.2.1 (Zb (zcY 8 s110.2.2.2.2 ([w64 (s110.1+y115.1)])) λx126=>
Zb (zcY 8 s110.2.2.2.1 ([x117.2.2.2.1])) λx128=>
Zb (zcY 8 s110.2.2.1 ([w64 (0-x117.2.2.2.2.1)])) λx130=>
Ob (.inl (w64 (s110.1+y115.1),w64 (s110.2.1+1),x130,x128,x126))) (Zb (zcY 8 s110.2.2.2.2 ([w64 (s110.1+y115.1)])) λx138=>
Zb (zcY 8 s110.2.2.2.1 ([x117.2.2.2.1])) λx140=>
Zb (zcY 8 s110.2.2.1 ([x117.2.2.2.2.1])) λx142=>
Ob (.inl (w64 (s110.1+y115.1),w64 (s110.2.1+1),x142,x140,x138))))) (Ob (.inr (.inl (s110.2.2.2.2,s110.2.2.2.1,s110.2.2.1))))) big (0,0,[],[],[])=Ob (.inl (zgm p way,zn3 p way,zn4 p way)):=by
  have hn:=hw.n;have key:∀ (k i:Nat),i+k=way.length->Lp (σ:=(Int×Int×List Int×List Int×List Int)) (τ:=(List Int×List Int×List Int)⊕(Option zaF×Bool×List Int×List Int×List Int)) (λs110=>
cond (decide (s110.2.1<zq way)) (Zb (idx way s110.2.1) λx113=>
Zb (zb3 p x113.1) λy115=>
cond (y115.2 !=0) (Ob (.inr (.inr ((Oe:Option zaF),Oc,s110.2.2.2.2,s110.2.2.2.1,s110.2.2.1)))) (Zb (idx p.2.1 x113.1) λx117=>
cond x113.2.1 (Zb (zcY 8 s110.2.2.2.2 ([w64 (s110.1+y115.1)])) λx126=>
Zb (zcY 8 s110.2.2.2.1 ([x117.2.2.2.1])) λx128=>
Zb (zcY 8 s110.2.2.1 ([w64 (0-x117.2.2.2.2.1)])) λx130=>
Ob (.inl (w64 (s110.1+y115.1),w64 (s110.2.1+1),x130,x128,x126))) (Zb (zcY 8 s110.2.2.2.2 ([w64 (s110.1+y115.1)])) λx138=>
Zb (zcY 8 s110.2.2.2.1 ([x117.2.2.2.1])) λx140=>
Zb (zcY 8 s110.2.2.1 ([x117.2.2.2.2.1])) λx142=>
Ob (.inl (w64 (s110.1+y115.1),w64 (s110.2.1+1),x142,x140,x138))))) (Ob (.inr (.inl (s110.2.2.2.2,s110.2.2.2.1,s110.2.2.1))))) k (zeN p way i,(i:Int),rlN i (zjb p way),rlN i (zmQ p way),rlN i (λj=>zeN p way (j+1))) (.inl (zgm p way,zn3 p way,zn4 p way)):=by
    intro k;induction k with
    | zero=>
      intro i hi;have:i=way.length:=J
      subst this;refine Lp.done ?_;simp only [zba,cond_false];rfl
    | succ k ih=>
      intro i hi;have hil:i<way.length:=J
      have hb:=zpY hp hw (i:=i) J;have hb1:=zpY hp hw (i:=i+1) J;have hsx:=zlY p way i;have hml:mvl p way i=zmN p (way.getD i M0).1:=rfl;have hwe:w64 (zeN p way i+zmN p (way.getD i M0).1)=zeN p way (i+1):=by
        rw [← hml,← hsx,zk J J]
      obtain ⟨_,hs,hr⟩:=zs1 hp hw hil;have hh:zsY p ((way.getD i M0).1,Oc,())=Od:=zjS.2 (hw.m i hil);have hlen:zb3 p (way.getD i M0).1=Ob (zmN p (way.getD i M0).1,0):=by
        rw [zs0,hv,hh]; rfl
      refine Lp.step ?_ (ih (i+1) J);have a1:∀ (f:Nat->Int) (v:Int),v=f i->zcY 8 (rlN i f) [v]=Ob (rlN (i+1) f):=λf v hvf=>by
        rw [zbf (by simp only [zgL,List.length_singleton]; omega),zp2,hvf]
      have z0:((0:Int)!=0)=Oc:=rfl;simp only [za5 hil,cond_true,zI M0 hil,Zs,hlen,z0,cond_false,hr,hwe,z7 (show i<9223372036854775807 by omega)];have a2:=a1 (λj=>zeN p way (j+1)) (zeN p way (i+1)) rfl;have a3:=a1 (zmQ p way) (zjt p way i).2.2.2.1 rfl;simp only [a2,a3,Zs];unfold zjb at hs;cases hrv:(way.getD i M0).2.1 with
      | true=>
        rw [hrv] at hs;simp only [if_true] at hs;have e:w64 (0-(zjt p way i).2.2.2.2.1)=zjb p way i:=by
          unfold zjb;rw [hrv,zk J J,Int.zero_sub]; rfl
        simp only [a1 (zjb p way) _ e,Zs,cond_true,cond_false]
      | false=>
        have e:(zjt p way i).2.2.2.2.1=zjb p way i:=by
          unfold zjb;rw [hrv]; rfl
        simp only [a1 (zjb p way) _ e,Zs,cond_true,cond_false]
  have hL:=(key way.length 0 J).big Of;exact hL
theorem zp3 (p:Plan) (way:List zad) (t:Train) (st:Int) (stops:List Int) (hwl:way.length<=9223372036854775807) (hsl:stops.length<=9223372036854775807):zdW p way t st stops=Ob (if zhJ p way t st stops then (Ob (ziC p way t st stops),Od) else (Oe,Oc)):=by
 unfold zdW zhJ;rw [zsF,Zs,zjs p hwl,Zs];cases hv:zbJ p with
 | false=>
  simp only [Bool.false_and,Bool.false_eq_true,if_false];cases (trB t&&inB st 0 (t.2.2.2.2.2.2.2.2.2.1.length-1))<;>rfl
 | true=>
 cases hwy:zm3 p way with
 | false=>
  simp only [Bool.true_and,Bool.false_and,Bool.and_false,Bool.false_eq_true,if_false];cases (trB t&&inB st 0 (t.2.2.2.2.2.2.2.2.2.1.length-1))<;>rfl
 | true=>
 cases htr:trB t with
 | false=>rfl
 | true=>
 cases hin:inB st 0 (t.2.2.2.2.2.2.2.2.2.1.length-1) with
 | false=>rfl
 | true=>
 have hp:=zfo hv;have hw:=zkS hwy;simp only [Bool.true_and,if_true,Bool.not_true,cond_false,show ((0:Int)!=0)=Oc from rfl,mwithin,Zs];cases hln:inB (zq stops) 2 100 with
 | false=>rfl
 | true=>
 have hl:=zas.1 hln;rw [zo] at hl;have hl:2<=stops.length/\stops.length<=100:=J
 have h0:idx stops 0=Ob (zei stops 0):=zI (i:=0) 0 J;simp only [Bool.not_true,cond_false,h0,Zs,zyf hl,Bool.true_and];cases decide (zei stops 0<t.2.1) with
 | true=>rfl
 | false=>
 simp only [cond_false,Zs,Bool.not_false,Bool.true_and];by_cases hgt:zei stops (stops.length-1)>wlS p way
 . rw [decide_eq_true hgt,decide_eq_false (show ¬ zei stops (stops.length-1)<=wlS p way by omega),Bool.and_false]; rfl
 . rw [decide_eq_false hgt,decide_eq_true (show zei stops (stops.length-1)<=wlS p way by omega),Bool.and_true,cond_false];rw [zvm (τ:=Unit⊕(Option zaF×Bool)) hl (.inr (Oe,Oc)) (.inl ()) (λs=>rfl),Zs];cases zAN stops with
   | false=>rfl
   | true=>
    simp only [if_true,zdN,Zs];have hB:=zvn (t:=t) hv hp hw;exact congrArg (λo=>Zb o λt144:(List Int×List Int×List Int)⊕(Option zaF×Bool×List Int×List Int×List Int)=>alt (λb146=>Ob (Ob ((t,st,()),way,b146.1,b146.2.1,b146.2.2,stops,()),Od)) (λb147=>Ob (b147.1,b147.2.1)) t144) hB
def zqY (p_2:Train) (y1:Option zaF) (x7:List Int):(List Leg×Int×Int×Int)->Option ((List Leg×Int×Int×Int)⊕((List Leg×Int×Int)⊕(List Leg×Int×Int×Int))):=(λs32=>
cond (decide (s32.2.1<zq x7)) (Zb (idx x7 s32.2.1) λx35=>
Zb y1 λp36=>
Zb (zaL p36 (s32.2.2.1,s32.2.2.2,()) x35) λy37=>
cond (!y37.2.2) (Ob (.inr (.inr ([],4,s32.2.2.1,s32.2.2.2)))) (cond (decide (s32.2.2.2>10000000000000000)) (Ob (.inr (.inr ([],4,s32.2.2.1,s32.2.2.2)))) (Zb (zcY 80 s32.1 ([y37.1])) λx44=>
Ob (.inl (x44,w64 (s32.2.1+1),y37.2.1.1,y37.2.1.2.1))))) (Ob (.inr (.inl (s32.1,s32.2.2.1,s32.2.2.2)))))
section
variable (p:Plan) (way:List zad) (t:Train) (st:Int)
def zkX:List Int->ze->Option (List Leg×ze)
 | [],x=>Ob ([],x)
 | s::r,x=>match zl0 p way t st s 36000 0 (0,0,0,0,0,0,()) 0 0 x with
  | none=>Oe
  | some (g,y)=>match zkX r y with
   | none=>Oe
   | some (gs,z)=>Ob (g::gs,z)
end
structure RunOk (p:Plan) (way:List zad) (t:Train) (st:Int) (stops:List Int):Prop where
 hp:zjr p
 hw:ziB p way
 ht:zk9 t
 hst:0<=st/\st<t.2.2.2.2.2.2.2.2.2.1.length
 hn:2<=stops.length/\stops.length<=100
 h0:t.2.1<=zei stops 0
 up:∀ k,k+1<stops.length->zei stops k<zei stops (k+1)
 la:zei stops (stops.length-1)<=wlS p way
 b:wlS p way<=62000000000
section
variable {p:Plan} {way:List zad} {t:Train} {st:Int} {stops:List Int} (R:RunOk p way t st stops)
include R
theorem zp4 {i j:Nat} (h:i<=j) (hj:j<stops.length):zei stops i<=zei stops j:=by
 induction j with
 | zero=>rw [show i=0 by omega]; omega
 | succ j ih=>
  by_cases e:i=j+1
  . subst e; omega
  . have h1:=ih J J;have h2:=R.up j hj;omega
theorem zs5 {i:Nat} (hi:i<stops.length):1<=zei stops i/\zei stops i<=62000000000:=by
 have h1:=zp4 R (Nat.zero_le i) hi;have h2:=zp4 R (i:=i) (j:=stops.length-1) J J;have:=R.h0;have:=R.la;have:=R.b;have:=R.ht.len;omega
theorem zp5 {stop:Int} (hS:stop<=100000000000):∀ (n:Nat) (tm:Int) (l:zbh) (a b:Int) (x:ze) (g:Leg) (y:ze),zmT t stop x->zl0 p way t st stop n tm l a b x=Ob (g,y)->zmT t stop y:=by
 intro n;induction n with
 | zero=>
  intro tm l a b x g y hx h;unfold zl0 at h;split at h
  . cases h; exact hx
  . cases h
 | succ n ih=>
  intro tm l a b x g y hx h;unfold zl0 at h;split at h
  . cases h; exact hx
  . cases hd:zs4 p way t st stop x with
    | none=>rw [hd] at h; cases h
    | some d=>
     rw [hd] at h;exact ih _ _ _ _ _ _ _ (zkW R.hp R.hw R.ht R.hst hS hx hd).1 h
theorem zmT.up {s s':Int} {x:ze} (h:zmT t s x) (hs:s<=s'):zmT t s' x:=⟨h.p,h.w,by have:=h.s; omega⟩
theorem zz2 {i:Nat} (h:i+1<stops.length):stops.drop (i+1)=zei stops (i+1)::stops.drop (i+2):=by
 rw [List.drop_eq_getElem_cons h];congr 1;unfold zei;simp [h]
theorem zp6:∀ (k i:Nat) (x:ze) (gs:List Leg) (z:ze),i+k+1=stops.length->zmT t (zei stops i) x->zkX p way t st (stops.drop (i+1)) x=Ob (gs,z)->x.2.1<=z.2.1:=by
 intro k;induction k with
 | zero=>
  intro i x gs z hi hx h;rw [List.drop_of_length_le J] at h;unfold zkX at h;cases h; exact Int.le_refl _
 | succ k ih=>
  intro i x gs z hi hx h;have hi1:i+1<stops.length:=J
  have hb:=zs5 R hi1;have hup:=R.up i hi1;have hxn:=zmT.up R hx (s':=zei stops (i+1)) J;rw [zz2 R hi1] at h;unfold zkX at h;cases hl:zl0 p way t st (zei stops (i+1)) 36000 0 (0,0,0,0,0,0,()) 0 0 x with
  | none=>rw [hl] at h; cases h
  | some gy=>
   obtain ⟨g,y⟩:=gy;rw [hl] at h;have hy:=zp5 R J _ _ _ _ _ _ _ _ hxn hl;have h1:=zp0 R.hp R.hw R.ht R.hst (stop:=zei stops (i+1)) J _ _ _ _ _ _ _ _ hxn hl;simp only [] at h;cases hd:zkX p way t st (stops.drop (i+2)) y with
   | none=>rw [hd] at h; cases h
   | some gz=>
    rw [hd] at h;cases h;have h2:=ih (i+1) y _ _ J hy hd;omega
theorem zvo:∀ (k i:Nat) (acc:List Leg) (x:ze),i+k+1=stops.length->acc.length<=i->zmT t (zei stops i) x->(x.2.1<=10000000000000000\/1<=k)->∃ T,Lp (zqY t (Ob (ziC p way t st stops)) (stops.drop 1)) k (acc,(i:Int),x.1,x.2.1) T/\(match zkX p way t st (stops.drop (i+1)) x with | some (gs,z)=>if z.2.1<=10000000000000000 then T=.inl (acc++gs,z.1,z.2.1) else ∃ v w,T=.inr ([],4,v,w) | none=>∃ v w,T=.inr ([],4,v,w)):=by
 have hn:=R.hn;intro k;induction k with
 | zero=>
  intro i acc x hi hacc hx h16;refine ⟨.inl (acc,x.1,x.2.1),Lp.done ?_, ?_⟩
  ·unfold zqY;have:(stops.drop 1).length=i:=by rw [List.length_drop]; omega
   subst this;simp only [zba,cond_false]
  ·rw [List.drop_of_length_le J];unfold zkX;simp only [List.append_nil];rw [if_pos J]; trivial
 | succ k ih=>
  intro i acc x hi hacc hx h16;have hi1:i+1<stops.length:=J
  have hb:=zs5 R hi1;have hup:=R.up i hi1;have hxn:=zmT.up R hx (s':=zei stops (i+1)) J;have hw:x.2.1<=100000000000000000:=hx.w.2;have hdl:(stops.drop 1).length=stops.length-1:=by rw [List.length_drop]
  have hix:idx (stops.drop 1) (i:Int)=Ob (zei stops (i+1)):=by
   rw [zI 0 J];congr 1;unfold zei;simp [List.getD,Nat.add_comm]
  by_cases hx16:x.2.1<=10000000000000000;rotate_left
  ·obtain ⟨Rr,hR⟩:=zye (stops:=stops) R.hp R.hw R.ht R.hst (stop:=zei stops (i+1)) J hxn J;refine ⟨.inr ([],4,x.1,x.2.1),Lp.done ?_, ?_⟩
   ·unfold zqY;simp only [za5 (show i<(stops.drop 1).length by omega),cond_true,hix,Zs];show (Zb (zaL (ziC p way t st stops) x (zei stops (i+1))) _:Option _)=_;rw [hR,Zs,decide_eq_true (show x.2.1>10000000000000000 by omega)];cases Rr.2.2<;>rfl
   ·cases hd:zkX p way t st (stops.drop (i+1)) x with
    | none=>exact ⟨_,_,rfl⟩
    | some gz=>
     have h3:=zp6 R (k+1) i x gz.1 gz.2 hi hx hd;simp only [];rw [if_neg J];exact ⟨_,_,rfl⟩
  rw [zz2 R hi1];obtain ⟨L,X,hleg⟩:=zz1 (stops:=stops) R.hp R.hw R.ht R.hst (stop:=zei stops (i+1)) J hxn hx16;unfold zkX;cases hl:zl0 p way t st (zei stops (i+1)) 36000 0 (0,0,0,0,0,0,()) 0 0 x with
  | none=>
   rw [hl] at hleg;refine ⟨.inr ([],4,x.1,x.2.1),Lp.done ?_,⟨_,_,rfl⟩⟩;unfold zqY;simp only [za5 (show i<(stops.drop 1).length by omega),cond_true,hix,Zs];show (Zb (zaL (ziC p way t st stops) x (zei stops (i+1))) _:Option _)=_;rw [hleg]; rfl
  | some gy=>
   obtain ⟨g,y⟩:=gy;rw [hl] at hleg;have hy:=zp5 R J _ _ _ _ _ _ _ _ hxn hl;by_cases hy16:y.2.1<=10000000000000000;rotate_left
   ·refine ⟨.inr ([],4,x.1,x.2.1),Lp.done ?_, ?_⟩
    ·unfold zqY;simp only [za5 (show i<(stops.drop 1).length by omega),cond_true,hix,Zs];show (Zb (zaL (ziC p way t st stops) x (zei stops (i+1))) _:Option _)=_;rw [hleg,Zs];simp only [if_neg hy16];rfl
    ·simp only [];cases hd:zkX p way t st (stops.drop (i+2)) y with
     | none=>exact ⟨_,_,rfl⟩
     | some gz=>
      have h3:=zp6 R k (i+1) y gz.1 gz.2 J hy hd;simp only [];rw [if_neg J];exact ⟨_,_,rfl⟩
   simp only [if_pos hy16] at hleg;obtain ⟨T,h1,h2⟩:=ih (i+1) (acc++[g]) y J Oj hy (.inl hy16);refine ⟨T,Lp.step ?_ h1, ?_⟩
   ·unfold zqY;simp only [za5 (show i<(stops.drop 1).length by omega),cond_true,hix,Zs];show (Zb (zaL (ziC p way t st stops) x (zei stops (i+1))) _:Option _)=_;rw [hleg,Zs];simp only [Bool.not_true,cond_false,decide_eq_false (show ¬ x.2.1>10000000000000000 by omega)];rw [zbf Oj,Zs,z7 J]
   ·simp only [];rw [show i+1+1=i+2 by omega] at h2;cases hd:zkX p way t st (stops.drop (i+2)) y with
    | none=>rw [hd] at h2; exact h2
    | some gz=>
     rw [hd] at h2;simp only [] at h2 ⊢;split at h2
     ·rename_i hz; rw [if_pos hz,h2,List.append_assoc]; rfl
     ·rename_i hz; rw [if_neg hz]; exact h2
def st0 (t:Train) (stops:List Int):ze:=(0,10*t.1*zei stops 0,())
theorem zwk:w64 (w64 (10*t.1)*zei stops 0)=(st0 t stops).2.1/\zmT t (zei stops 0) (st0 t stops):=by
 have hm:=R.ht.m;have hn:=R.hn;have hb:=zs5 R (i:=0) J;have h1:=zez (a:=10*t.1) (b:=zei stops 0) (A:=800000) (B:=62000000000) ⟨by omega,by omega⟩ ⟨by omega,by omega⟩;refine ⟨?_,⟨by show (0:Int)<=0; omega,by show (0:Int)<=_; omega⟩,⟨?_,by show 10*t.1*zei stops 0<=_; omega⟩, ?_⟩
 . rw [zk (n:=10*t.1) J J,zk J J]; rfl
 . show 10*t.1<=10*t.1*zei stops 0;have h9:10*t.1*1<=10*t.1*zei stops 0:=Int.mul_le_mul_of_nonneg_left hb.1 J;omega
 . show 10*t.1*zei stops 0/(10*t.1)<=zei stops 0;rw [Int.mul_ediv_cancel_left _ J];omega
def zkY (p:Plan) (way:List zad) (t:Train) (st:Int) (stops:List Int):Option (List Leg):=(zkX p way t st (stops.drop 1) (st0 t stops)).bind λgz=>if gz.2.2.1<=10000000000000000 then Ob gz.1 else Oe
theorem zs6 (hsb:zhJ p way t st stops=Od):zb4 p way t st stops=Ob (match zkY p way t st stops with | some gs=>(gs,0) | none=>([],4)):=by
 have hn:=R.hn;have hw:=R.hw.n;unfold zb4;rw [zp3 p way t st stops J J,hsb];simp only [if_true,Zs,Bool.not_true,cond_false];have h0:idx stops 0=Ob (zei stops 0):=zI (i:=0) 0 J;have hsl:slO stops 1 (zq stops)=Ob (stops.drop 1):=by
  rw [zu6 (by rw [zo]; omega),zo];simp
 rw [h0,Zs,hsl,Zs,(zwk R).1];obtain ⟨T,h1,h2⟩:=zvo R (stops.length-1) 0 [] (st0 t stops) J Ol (zwk R).2 (.inr J);have hB:=h1.big Of;refine (congrArg (λo=>Zb o λt46:(List Leg×Int×Int)⊕(List Leg×Int×Int×Int)=>alt (λb48=>Ob (b48.1,(0:Int))) (λb49=>Ob (b49.1,b49.2.1)) t46) hB).trans ?_;rw [Zs];unfold zkY;rw [Nat.zero_add] at h2;cases hd:zkX p way t st (stops.drop 1) (st0 t stops) with
 | some gz=>
  rw [hd] at h2;simp only [] at h2;simp only [Zs];split at h2
  ·rename_i hz; rw [if_pos hz,h2]; rfl
  ·rename_i hz; obtain ⟨v,w,h2⟩:=h2; rw [if_neg hz,h2]; rfl
 | none=>
  rw [hd] at h2;obtain ⟨v,w,h2⟩:=h2;rw [h2]; rfl
end
theorem zs7 {l:List Leg} (hl:l.length<=1000):za0 l (λx=>zeR x)=Ob (l.map (·.1)):=by
  unfold za0;have hL:=ze5 (f:=λs7:List Int×Int=>
cond (decide (s7.2<zq l)) (Zb (idx l s7.2) λx10=>
Zb (zeR x10) λy12=>
Zb (zcY 8 s7.1 ([y12])) λx13=>
Ob (.inl (x13,w64 (s7.2+1)))) (Ob (.inr s7.1))) l (λi b=>(b,(i:Int))) (λ_ b c=>(.inl (b++[c.1]):List Int⊕List Int)) (λb=>b) (λi b=>b.length=i) [] (s0:=([],0)) rfl J rfl (λi h b hb=>by
      refine ⟨?_,λb' hb'=>?_⟩
      · simp only [];rw [za5 h,cond_true,zhY,List.getElem?_eq_getElem h,Zs];show (Zb (Ob l[i].1) _:Option _)=_;rw [Zs,zbf Oj,Zs,z7 J]
      · cases hb'; simp; omega) (λb _=>by simp only [zba,cond_false])
  rw [hL,zi8,Zs];have:∀ (l:List Leg) (b:List Int),l.foldl (λb c=>b++[c.1]) b=b++l.map (·.1):=by
    intro l;induction l with
    | nil=>intro b; simp
    | cons a l ih=>intro b; rw [List.foldl_cons,ih]; simp
  rw [this]; rfl
theorem zs8 {p:Plan} {way:List zad} {t:Train} {st:Int} {stops:List Int} {gs:List Leg} {e:Int} (h:zb4 p way t st stops=Ob (gs,e)) (hl:gs.length<=1000):zc7 p way t st stops=Ob (if e=0 then (gs.map (·.1),0) else ([],e)):=by
 unfold zc7;rw [h,Zs];by_cases h0:e=0
 . subst h0;simp only [show ((0:Int)!=0)=Oc from rfl,cond_false,zs7 hl,Zs];rfl
 . have hb:(e !=0)=Od:=by simpa using h0
   simp only [hb,cond_true];rw [if_neg h0]
section
variable {p:Plan} {way:List zad} {t:Train} {st:Int} {stops:List Int} (R:RunOk p way t st stops)
include R
omit R in
theorem zp7:∀ {r:List Int} {x:ze} {gs:List Leg} {z:ze},zkX p way t st r x=Ob (gs,z)->gs.length=r.length
 | [],x,gs,z,h=>by unfold zkX at h; cases h; rfl
 | s::r,x,gs,z,h=>by
  unfold zkX at h;cases hl:zl0 p way t st s 36000 0 (0,0,0,0,0,0,()) 0 0 x with
  | none=>rw [hl] at h; cases h
  | some gy=>
   rw [hl] at h;simp only [] at h;cases hd:zkX p way t st r gy.2 with
   | none=>rw [hd] at h; cases h
   | some q=>
    rw [hd] at h;cases h;have:=zp7 hd;simp [this]
theorem zp8 {gs:List Leg} (h:zkY p way t st stops=Ob gs):gs.length=stops.length-1:=by
 unfold zkY at h;cases hd:zkX p way t st (stops.drop 1) (st0 t stops) with
 | none=>rw [hd] at h; cases h
 | some q=>
  rw [hd,Zs] at h;split at h
  . cases h; rw [zp7 hd,List.length_drop]
  . cases h
end
theorem zl1 {p:Plan} {way:List zad} {t:Train} {st:Int} {stops:List Int} (h:zhJ p way t st stops=Od) (hb:wlS p way<=62000000000):RunOk p way t st stops:=by
 unfold zhJ at h;simp only [Bool.and_eq_true] at h;obtain ⟨h1,h2,h3,h4,h5,h6,h7,h8⟩:=h;have hp:=zfo h1;have hw:=zkS h2;have h4:=zas.1 h4;have h5:=zas.1 h5;rw [zo] at h5;refine ⟨hp,hw,zsA.1 h3,by omega,by omega, ?_,λk hk=>?_,of_decide_eq_true h8,hb⟩
 . rw [Bool.not_eq_true',decide_eq_false_iff_not] at h6; omega
 . unfold zAN at h7;have:=List.all_eq_true.1 h7 k (List.mem_range.2 J);rw [Bool.not_eq_true',decide_eq_false_iff_not] at this; omega
theorem zs9 {p:Plan} {way:List zad} {t:Train} {st:Int} {stops:List Int} (hwl:way.length<=9223372036854775807) (hsl:stops.length<=9223372036854775807) (h:zhJ p way t st stops=Oc):zb4 p way t st stops=Ob ([],2):=by
 unfold zb4;rw [zp3 p way t st stops hwl hsl,h];rfl
theorem zyg {p:Plan} {way:List zad} {t:Train} {st:Int} {stops:List Int} (h:zhJ p way t st stops=Od) (hb:wlS p way<=62000000000):zc7 p way t st stops=Ob (match zkY p way t st stops with | some gs=>(gs.map (·.1),0) | none=>([],4)):=by
 have R:=zl1 h hb;have hn:=R.hn;have hd:=zs6 R h;cases hl:zkY p way t st stops with
 | none=>
  rw [hl] at hd;simp only [] at hd;rw [zs8 hd Ol]; rfl
 | some gs=>
  rw [hl] at hd;simp only [] at hd;have hlen:=zp8 R hl;rw [zs8 hd J]; rfl
theorem zz3 {p:Plan} {way:List zad} {t:Train} {st:Int} {stops:List Int} (hwl:way.length<=9223372036854775807) (hsl:stops.length<=9223372036854775807) (h:zhJ p way t st stops=Oc):zc7 p way t st stops=Ob ([],2):=by
 rw [zs8 (zs9 hwl hsl h) Ol]; rfl
section
variable {p:Plan} {way:List zad} {t:Train} {st:Int} {stops:List Int}
theorem zwl {stop:Int}:∀ (n:Nat) (tm:Int) (l:zbh) (a b:Int) (x:ze) (g:Leg) (y:ze),zl0 p way t st stop n tm l a b x=Ob (g,y)->tm<=g.1/\g.1<=tm+100*n
 | 0,tm,l,a,b,x,g,y,h=>by
  unfold zl0 at h;split at h
  . cases h; simp
  . cases h
 | n+1,tm,l,a,b,x,g,y,h=>by
  unfold zl0 at h;split at h
  . cases h; simp only []; omega
  . split at h
    . cases h
    . have:=zwl n _ _ _ _ _ _ _ h;omega
theorem zwm:∀ {r:List Int} {x:ze} {gs:List Leg} {z:ze},zkX p way t st r x=Ob (gs,z)->∀ g∈gs,0<=g.1/\g.1<=3600000
 | [],x,gs,z,h=>by unfold zkX at h; cases h; simp
 | s::r,x,gs,z,h=>by
  unfold zkX at h;cases hl:zl0 p way t st s 36000 0 (0,0,0,0,0,0,()) 0 0 x with
  | none=>rw [hl] at h; cases h
  | some gy=>
   rw [hl] at h;simp only [] at h;cases hd:zkX p way t st r gy.2 with
   | none=>rw [hd] at h; cases h
   | some q=>
    rw [hd] at h;cases h;intro g hg;rcases List.mem_cons.1 hg with rfl | hg
    ·have:=zwl 36000 0 _ _ _ _ gy.1 gy.2 hl;omega
    ·exact zwm hd g hg
theorem zyh {gs:List Leg} (h:zkY p way t st stops=Ob gs):∀ g∈gs,0<=g.1/\g.1<=3600000:=by
 unfold zkY at h;cases hd:zkX p way t st (stops.drop 1) (st0 t stops) with
 | none=>rw [hd] at h; cases h
 | some q=>
  rw [hd,Zs] at h;split at h
  . cases h; exact zwm hd
  . cases h
end
theorem zta {n h:Int} (hh:0<h):-h<n.tmod h/\n.tmod h<h:=⟨by
 by_cases hn:0<=n
 . have:=Int.tmod_nonneg h hn; omega
 . have h1:(-n).tmod h<h:=Int.tmod_lt_of_pos _ hh;rw [Int.neg_tmod] at h1;omega,Int.tmod_lt_of_pos _ hh⟩
theorem zyi {n h:Int} (hh:0<h):(n.tmod h+h).tmod h=n%h:=by
 have hb:=zta (n:=n) hh;rw [Int.tmod_eq_emod_of_nonneg J,Int.add_emod_right];have e:=Int.tmod_add_mul_tdiv n h;have e2:n=n.tmod h+h*n.tdiv h:=e.symm
 conv=>rhs; rw [e2]
 rw [Int.add_mul_emod_self_left]
theorem zyj {n h:Int} (hh:0<h) (h2:h<=1000000000000):(Zb (zri n h) λx=>zri (w64 (x+h)) h)=Ob (n%h):=by
 have hb:=zta (n:=n) hh;unfold zri;rw [if_neg J,Zs,if_neg J,zk J J,zyi hh]
theorem zz4 {a n:Int}:a+(-a)%n=-((-a)/n)*n:=by
 have:=Int.emod_add_mul_ediv (-a) n;rw [Int.neg_mul,Int.mul_comm ((-a)/n) n];omega
theorem zCk {a n:Int} (hn:0<n):(a+(-a)%n)/n=-((-a)/n):=by
 rw [zz4,Int.mul_ediv_cancel _ J]
theorem ztb {base start h:Int}:start+(base-start)%h=base+-((base-start)/h)*h:=by
 have:=Int.emod_add_mul_ediv (base-start) h;rw [Int.neg_mul,Int.mul_comm ((base-start)/h) h];omega
theorem zyk {r h:Int} (hh:0<h):((r+h-1)/h-1)*h<r/\r<=(r+h-1)/h*h:=by
 have h1:=Int.emod_add_mul_ediv (r+h-1) h;have h2:=Int.emod_nonneg (r+h-1) (show h≠0 by omega);have h3:=Int.emod_lt_of_pos (r+h-1) hh;rw [Int.sub_mul,Int.one_mul,Int.mul_comm ((r+h-1)/h) h];omega
theorem zz5 {k h:Int} (hh:0<h):(k*h).tdiv h=k:=by
 rw [Int.mul_tdiv_cancel _ J]
theorem zha (n a b:Int):zT n a b=Ob (inB n a b):=zhu n a b
theorem ztc {A:Type} {n:Nat} {f:Nat->A} {i:Nat} {v:A}:(rlN n f).set i v=rlN n λx=>if x=i then v else f x:=by
 apply List.ext_getElem?;intro j;unfold rlN;rw [List.getElem?_set];by_cases h:i=j
 . subst h;by_cases h2:i<n
   . simp [h2]
   . simp [h2]
 . by_cases h2:j<n
   . simp [h,h2,Ne.symm h]
   . simp [h,h2]
theorem zgn {A:Type} {n:Nat} {f g:Nat->A} (h:∀ i,i<n->f i=g i):rlN n f=rlN n g:=List.map_congr_left λi hi=>h i (List.mem_range.1 hi)
theorem zjc {A:Type} {n:Nat} {f:Nat->A} {i:Nat} (h:i<n):idx (rlN n f) (i:Int)=Ob (f i):=by
 rw [zhY]; unfold rlN; simp [h]
theorem zp9 {A:Type} (n:Nat) (x:A):List.replicate n x=rlN n λ_=>x:=by
 apply List.ext_getElem?;intro j;unfold rlN;rw [List.getElem?_replicate];by_cases h:j<n<;>simp [h]
def dwl (c:Course) (i:Nat):Int:=c.2.2.1.getD i 0
def stB (p:Plan) (c:Course) (i:Nat):Bool:=inB (zei c.2.1 i) 1 (wlS p c.1)&&(decide (i=0)||!decide (zei c.2.1 i<=zei c.2.1 (i-1)))&&inB (dwl c i) 0 600
def zqZ (c:Course):Bool:=inB (zq c.2.1) 2 60&&(decide (c.2.2.1.length=c.2.1.length)&&((dwl c 0==0)&&(dwl c (c.2.1.length-1)==0)))
def zz6 (p:Plan) (c:Course):Bool:=zm3 p c.1&&(zqZ c&&(List.range c.2.1.length).all (stB p c))
theorem zyl (c:Course) (e:Int) (he:2<=c.2.1.length->c.2.1.length<=60->c.2.2.1.length=c.2.1.length->e=((c.2.1.length-1:Nat):Int)):(cond (!(inB (zq c.2.1) 2 60)) (Ob Od) (cond (zq c.2.2.1 !=zq c.2.1) (Ob Od) (Zb (idx c.2.2.1 0) λx14=>
cond (x14 !=0) (Ob Od) (Zb (idx c.2.2.1 e) λx16=>
Ob (x16 !=0)))))=Ob (!zqZ c):=by
 unfold zqZ;cases h1:inB (zq c.2.1) 2 60 with
 | false=>rfl
 | true=>
 have h1:=zas.1 h1;rw [zo] at h1;by_cases h2:c.2.2.1.length=c.2.1.length
 . have e1:(zq c.2.2.1 !=zq c.2.1)=Oc:=by rw [zo,zo,h2]; exact bne_self_eq_false _
   rw [e1,decide_eq_true h2,he J J h2];have hp:0<c.2.2.1.length:=J
   have i0:idx c.2.2.1 0=Ob (dwl c 0):=zI (l:=c.2.2.1) (i:=0) 0 hp;rw [i0,zI (l:=c.2.2.1) (i:=c.2.1.length-1) 0 J];show cond (dwl c 0 !=0) (Ob Od) (Ob (dwl c (c.2.1.length-1)!=0))=_;unfold bne;cases (dwl c 0==0)<;>rfl
 . have e1:(zq c.2.2.1 !=zq c.2.1)=Od:=by
    rw [zo,zo];simp only [bne_iff_ne,ne_eq];omega
   rw [e1,decide_eq_false h2];rfl
theorem zqa {c:Course} (h:zqZ c=Od):(2<=c.2.1.length/\c.2.1.length<=60)/\c.2.2.1.length=c.2.1.length/\dwl c 0=0/\dwl c (c.2.1.length-1)=0:=by
 unfold zqZ at h;simp only [Bool.and_eq_true,decide_eq_true_eq,beq_iff_eq] at h;obtain ⟨h1,h2,h3,h4⟩:=h;have h1:=zas.1 h1;rw [zo] at h1;exact ⟨by omega,h2,h3,h4⟩
structure ztd (p:Plan) (c:Course):Prop where
 w:zm3 p c.1=Od
 n:2<=c.2.1.length/\c.2.1.length<=60
 d:c.2.2.1.length=c.2.1.length
 d0:dwl c 0=0
 dn:dwl c (c.2.1.length-1)=0
 st:∀ i,i<c.2.1.length->1<=zei c.2.1 i/\zei c.2.1 i<=wlS p c.1
 dw:∀ i,i<c.2.1.length->0<=dwl c i/\dwl c i<=600
theorem zz7 {p:Plan} {c:Course} (h:zz6 p c=Od):ztd p c:=by
 unfold zz6 at h;simp only [Bool.and_eq_true] at h;obtain ⟨h1,h2,h3⟩:=h;obtain ⟨a,b,c1,d⟩:=zqa h2;have hs:∀ i,i<c.2.1.length->stB p c i=Od:=λi hi=>List.all_eq_true.1 h3 i (List.mem_range.2 hi);refine ⟨h1,a,b,c1,d,λi hi=>?_,λi hi=>?_⟩
 . have:=hs i hi;unfold stB at this;simp only [Bool.and_eq_true] at this;exact zas.1 this.1.1
 . have:=hs i hi;unfold stB at this;simp only [Bool.and_eq_true] at this;exact zas.1 this.2
def zvp (ms:Int):Int:=max 1 ((ms+999)/1000)
theorem zte {ms:Int} (h:0<=ms/\ms<=3600000):1<=zvp ms/\zvp ms<=3600:=by unfold zvp; omega
def zym (p:Plan) (l:Line) (c:Course):Option (List Int):=
 if zhJ p c.1 l.2.2.1 l.2.2.2.1 c.2.1 then (zkY p c.1 l.2.2.1 l.2.2.2.1 c.2.1).map (λgs=>gs.map (·.1)) else Oe
theorem zz8 {p:Plan} {l:Line} {c:Course} {ms:List Int} (h:zym p l c=Ob ms) (hb:wlS p c.1<=62000000000):ms.length=c.2.1.length-1/\∀ m∈ms,0<=m/\m<=3600000:=by
 unfold zym at h;split at h
 . rename_i hs;cases hl:zkY p c.1 l.2.2.1 l.2.2.2.1 c.2.1 with
   | none=>rw [hl] at h; cases h
   | some gs=>
    rw [hl] at h;cases h;refine ⟨by rw [List.length_map]; exact zp8 (zl1 hs hb) hl,λm hm=>?_⟩;obtain ⟨g,hg,rfl⟩:=List.mem_map.1 hm;exact zyh hl g hg
 . cases h
theorem zCH (p:Plan) (l:Line) (c:Course) (hw:c.1.length<=9223372036854775807) (hn:c.2.1.length<=60) (hb:wlS p c.1<=62000000000):∃ e:Int,zc7 p c.1 l.2.2.1 l.2.2.2.1 c.2.1=Ob (match zym p l c with | some ms=>(ms,0) | none=>([],e))/\(zym p l c=Oe->e≠0):=by
 unfold zym;cases hs:zhJ p c.1 l.2.2.1 l.2.2.2.1 c.2.1 with
 | false=>exact ⟨2,zz3 hw J hs,λ_=>by omega⟩
 | true=>
  refine ⟨4, ?_,λ_=>by omega⟩;rw [zyg hs hb];cases zkY p c.1 l.2.2.1 l.2.2.2.1 c.2.1<;>rfl
def ztV (ms:List Int) (k:Nat):Int:=if k=0 then 0 else zvp (ms.getD (k-1) 0)
def zjU (ms:List Int) (c:Course):Nat->Int
 | 0=>0
 | k+1=>zjU ms c k+zvp (ms.getD k 0)+dwl c (k+1)
def zqb (ms:List Int) (c:Course):List Int:=rlN c.2.1.length (zjU ms c)
def zyn (ms:List Int) (c:Course):List Int:=rlN c.2.1.length (ztV ms)
def zl2 (p:Plan) (l:Line) (c:Course):Option (List Int):=if zz6 p c then zym p l c else Oe
structure zAO (c:Course) (ms:List Int):Prop where
 n:ms.length=c.2.1.length-1
 b:∀ k,0<=ms.getD k 0/\ms.getD k 0<=3600000
theorem ztf {p:Plan} {l:Line} {c:Course} {ms:List Int} (h:zl2 p l c=Ob ms) (hb:zm3 p c.1=Od->wlS p c.1<=62000000000):ztd p c/\zAO c ms:=by
 unfold zl2 at h;split at h
 . rename_i hc;have C:=zz7 hc;obtain ⟨h1,h2⟩:=zz8 h (hb C.w);refine ⟨C,h1,λk=>?_⟩;by_cases hk:k<ms.length
   . rw [show ms.getD k 0=ms[k] by simp [List.getD,hk]];exact h2 _ (List.getElem_mem hk)
   . rw [show ms.getD k 0=0 by simp [List.getD,hk]]; omega
 . cases h
section
variable {p:Plan} {l:Line} {c:Course} {ms:List Int} (C:ztd p c) (M:zAO c ms)
include C M
theorem zwn:∀ {k:Nat},k<c.2.1.length->0<=zjU ms c k/\zjU ms c k<=4200*k
 | 0,_=>by simp [zjU]
 | k+1,hk=>by
  have h1:=zwn (k:=k) J;have h2:=zte (M.b k);have h3:=C.dw (k+1) hk;simp only [zjU];omega
theorem zz9 {i j:Nat} (h:i<j) (hj:j<c.2.1.length):zjU ms c i+1<=zjU ms c j:=by
 induction j with
 | zero=>omega
 | succ j ih=>
  have h2:=zte (M.b j);have h3:=C.dw (j+1) hj;simp only [zjU];by_cases e:i=j
  . subst e; omega
  . have:=ih J J; omega
theorem zvq:∀ (k i:Nat),i+k=c.2.1.length-1->Lp (λs106:Int×List Int×List Int=>
cond (decide (s106.1<zq ms)) (Zb (idx ms s106.1) λx109=>
Zb (zf6 .i64 (w64 (x109+999)) 1000) λx110=>
Zb (idx s106.2.2 (w64 (s106.1+1))) λx111=>
Zb (idx s106.2.1 s106.1) λx116=>
Zb (idx ((s106.2.2).set (Int.toNat (w64 (s106.1+1))) (max 1 x110)) (w64 (s106.1+1))) λx117=>
Zb (idx c.2.2.1 (w64 (s106.1+1))) λx118=>
Zb (idx s106.2.1 (w64 (s106.1+1))) λx119=>
Ob (.inl (w64 (s106.1+1),(s106.2.1).set (Int.toNat (w64 (s106.1+1))) (w64 (w64 (x116+x117)+x118)),(s106.2.2).set (Int.toNat (w64 (s106.1+1))) (max 1 x110)))) (Ob (.inr (s106.2.1,s106.2.2)))) k ((i:Int),rlN c.2.1.length (λk=>if k<=i then zjU ms c k else 0),rlN c.2.1.length (λk=>if k<=i then ztV ms k else 0)) (zqb ms c,zyn ms c):=by
 intro k;have hn:=C.n;have hd:=C.d;have hm:=M.n;induction k with
 | zero=>
  intro i hi;refine Lp.done ?_;simp only [];rw [show (i:Int)=(ms.length:Nat) by omega,zba,cond_false];have e1:rlN c.2.1.length (λk=>if k<=i then zjU ms c k else 0)=zqb ms c:=zgn λk hk=>by rw [if_pos J]
  have e2:rlN c.2.1.length (λk=>if k<=i then ztV ms k else 0)=zyn ms c:=zgn λk hk=>by rw [if_pos J]
  rw [e1,e2]
 | succ k ih=>
  intro i hi;have hil:i<ms.length:=J
  refine Lp.step ?_ (ih (i+1) J);have a1:idx ms (i:Int)=Ob (ms.getD i 0):=zI 0 hil;have hb:=M.b i;have hs:=zte hb;have a2:zf6 .i64 (w64 (ms.getD i 0+999)) 1000=Ob ((ms.getD i 0+999)/1000):=by
   rw [zk J J,zea ⟨by omega,by omega⟩ J]
  have a3:idx (rlN c.2.1.length (λk=>if k<=i then ztV ms k else 0)) ((i+1:Nat):Int)=Ob 0:=by
   rw [zjc J,if_neg J]
  have a4:idx (rlN c.2.1.length (λk=>if k<=i then zjU ms c k else 0)) ((i:Nat):Int)=Ob (zjU ms c i):=by
   rw [zjc J,if_pos J]
  have a5:idx (rlN c.2.1.length (λk=>if k<=i then zjU ms c k else 0)) ((i+1:Nat):Int)=Ob 0:=by
   rw [zjc J,if_neg J]
  have a6:idx c.2.2.1 ((i+1:Nat):Int)=Ob (dwl c (i+1)):=zI 0 J;have hsec:max 1 ((ms.getD i 0+999)/1000)=zvp (ms.getD i 0):=rfl;have b1:(rlN c.2.1.length (λk=>if k<=i then ztV ms k else 0)).set (i+1) (zvp (ms.getD i 0))=rlN c.2.1.length (λk=>if k<=i+1 then ztV ms k else 0):=by
   rw [ztc];refine zgn λk hk=>?_;by_cases e:k=i+1
   ·subst e;rw [if_pos rfl,if_pos J];unfold ztV;rw [if_neg J]; rfl
   ·rw [if_neg e];by_cases e2:k<=i
    ·rw [if_pos e2,if_pos J]
    ·rw [if_neg e2,if_neg J]
  have hob:=zwn C M (k:=i) J;have hdb:=C.dw (i+1) J;have b2:(rlN c.2.1.length (λk=>if k<=i then zjU ms c k else 0)).set (i+1) (w64 (w64 (zjU ms c i+zvp (ms.getD i 0))+dwl c (i+1)))=rlN c.2.1.length (λk=>if k<=i+1 then zjU ms c k else 0):=by
   rw [ztc,zk (n:=zjU ms c i+_) J J,zk J J];refine zgn λk hk=>?_;by_cases e:k=i+1
   ·subst e;rw [if_pos rfl,if_pos J]; rfl
   ·rw [if_neg e];by_cases e2:k<=i
    ·rw [if_pos e2,if_pos J]
    ·rw [if_neg e2,if_neg J]
  have a7:idx (rlN c.2.1.length (λk=>if k<=i+1 then ztV ms k else 0)) ((i+1:Nat):Int)=Ob (zvp (ms.getD i 0)):=by
   rw [zjc J,if_pos J];unfold ztV;rw [if_neg J]; rfl
  simp only [za5 hil,cond_true,a1,Zs,a2,z7 (show i<9223372036854775807 by omega),a3,a4,hsec,Int.toNat_natCast,b1,a7,a6,a5,b2]
end
theorem ztg {p:Plan} {l:Line} {c:Course} (hv:zbJ p=Od) (hp:zjr p) (hwl:c.1.length<=9223372036854775807) (hsl:c.2.1.length<=9223372036854775807) (hb:zm3 p c.1=Od->wlS p c.1<=62000000000):zbr p l c=Ob (match zl2 p l c with | some ms=>(zyn ms c,zqb ms c,decide (zjU ms c (c.2.1.length-1)<=50000)) | none=>([],[],Oc)):=by
  unfold zbr;rw [zjs p hwl,hv,Bool.true_and,Zs];unfold zl2 zz6;cases hw:zm3 p c.1 with
  | false=>rfl
  | true=>
  have hb:=hb hw;simp only [if_true,show ((0:Int)!=0)=Oc from rfl,cond_false,zha,Zs];rw [zyl c _ (λh1 h2 _=>by rw [zo,zk J J]; omega),Zs];cases hh:zqZ c with
  | false=>rfl
  | true=>
  obtain ⟨hn,hd,hd0,hdn⟩:=zqa hh;simp only [Bool.not_true,cond_false,Bool.true_and];have h:=zkI (f:=λs42:Int=>
cond (decide (s42<zq c.2.1)) (Zb (idx c.2.1 s42) λx45=>
cond (!(inB x45 1 (wlS p c.1))) (Ob (.inr (.inr ([],[],Oc)))) (cond (decide (s42>0)) (Zb (idx c.2.1 (w64 (s42-1))) λx59=>
cond (decide (x45<=x59)) (Ob (.inr (.inr ([],[],Oc)))) (Zb (idx c.2.2.1 s42) λx62=>
cond (!(inB x62 0 600)) (Ob (.inr (.inr ([],[],Oc)))) (Ob (.inl (w64 (s42+1)))))) (Zb (idx c.2.2.1 s42) λx65=>
cond (!(inB x65 0 600)) (Ob (.inr (.inr ([],[],Oc)))) (Ob (.inl (w64 (s42+1))))))) (Ob (.inr (.inl ():Unit⊕(List Int×List Int×Bool))))) (λk=>(k:Int)) c.2.1.length (stB p c) (.inr ([],[],Oc)) (.inl ()) (s0:=0) rfl Of (λi hi=>by
      have a1:idx c.2.1 (i:Int)=Ob (zei c.2.1 i):=zI 0 hi;have a2:idx c.2.2.1 (i:Int)=Ob (dwl c i):=zI 0 J;unfold stB;by_cases h0:i=0
      · subst h0;simp only [za5 hi,cond_true,a1,a2,Zs,decide_eq_false (show ¬ (((0:Nat):Int)>0) by omega),cond_false,decide_eq_true (show (0:Nat)=0 from rfl),Bool.true_or,Bool.and_true,z7 (show 0<9223372036854775807 by omega)];cases inB (zei c.2.1 0) 1 (wlS p c.1)<;>cases inB (dwl c 0) 0 600<;>rfl
      · have a3:idx c.2.1 (w64 ((i:Int)-1))=Ob (zei c.2.1 (i-1)):=by
          rw [zk J J,show (i:Int)-1=((i-1:Nat):Int) by omega];exact zI 0 J
        simp only [za5 hi,cond_true,a1,a2,a3,Zs,decide_eq_true (show (i:Int)>0 by omega),decide_eq_false h0,Bool.false_or,z7 (show i<9223372036854775807 by omega)];cases inB (zei c.2.1 i) 1 (wlS p c.1)<;>cases decide (zei c.2.1 i<=zei c.2.1 (i-1))<;>cases inB (dwl c i) 0 600<;>rfl) (by simp only [zba,cond_false])
  rw [h,Zs];cases hs:(List.range c.2.1.length).all (stB p c) with
  | false=>rfl
  | true=>
  simp only [if_true,zdN];obtain ⟨e,hR,he⟩:=zCH p l c hwl J hb;rw [hR,Zs];cases hl:zym p l c with
  | none=>
    have he:=he hl;have:(e !=0)=Od:=by simpa using he
    simp only [this,cond_true,Zs]
  | some ms=>
    have hrs:zl2 p l c=Ob ms:=by
      unfold zl2 zz6;rw [hw,hh,hs];exact hl
    obtain ⟨C,M⟩:=ztf hrs (λ_=>hb);have hm:=M.n;have e1:(zq ms !=w64 (zq c.2.1-1))=Oc:=by
      rw [zo,zo,zk J J,hm];have:((c.2.1.length-1:Nat):Int)=(c.2.1.length:Int)-1:=J
      rw [this]; exact bne_self_eq_false _
    simp only [show ((0:Int)!=0)=Oc from rfl,cond_false,Zs,e1];have em:mkO 8 (zq c.2.1) (0:Int)=Ob (List.replicate c.2.1.length 0):=by
      rw [zgH (by rw [zo]; omega),zo,Int.toNat_natCast]
    simp only [em,Zs];have hL:=(zvq C M (c.2.1.length-1) 0 J).big Of;have z1:List.replicate c.2.1.length (0:Int)=rlN c.2.1.length (λk=>if k<=0 then zjU ms c k else 0):=by
      rw [zp9];refine zgn λk hk=>?_;by_cases e:k=0
      · subst e; rfl
      · rw [if_neg J]
    have z2:List.replicate c.2.1.length (0:Int)=rlN c.2.1.length (λk=>if k<=0 then ztV ms k else 0):=by
      rw [zp9];refine zgn λk hk=>?_;by_cases e:k=0
      · subst e; rfl
      · rw [if_neg J]
    rw [← z1,← z2] at hL;rw [show ((0:Nat):Int)=0 from rfl] at hL;rw [hL,Zs];have e2:idx (zqb ms c) (w64 (zq c.2.1-1))=Ob (zjU ms c (c.2.1.length-1)):=by
      rw [zo,zk J J,show (c.2.1.length:Int)-1=((c.2.1.length-1:Nat):Int) by omega];exact zjc J
    rw [e2,Zs]
def okC (p:Plan) (l:Line) (c:Course):Bool:=match zl2 p l c with | some ms=>decide (zjU ms c (c.2.1.length-1)<=50000) | none=>Oc
def zhb (p:Plan) (l:Line):Bool:=inB l.2.2.2.2.1 0 3600&&(okC p l l.1&&okC p l l.2.1)
def msC (p:Plan) (l:Line) (c:Course):List Int:=(zl2 p l c).getD []
def rnS (p:Plan) (l:Line):zu:=(l,[zyn (msC p l l.1) l.1,zyn (msC p l l.2.1) l.2.1],[zqb (msC p l l.1) l.1,zqb (msC p l l.2.1) l.2.1],())
structure ztW (p:Plan) (l:Line):Prop where
 w1:l.1.1.length<=9223372036854775807
 s1:l.1.2.1.length<=9223372036854775807
 w2:l.2.1.1.length<=9223372036854775807
 s2:l.2.1.2.1.length<=9223372036854775807
 b1:zbJ p=Od->zm3 p l.1.1=Od->wlS p l.1.1<=62000000000
 b2:zbJ p=Od->zm3 p l.2.1.1=Od->wlS p l.2.1.1<=62000000000
def zvr (p_0:Plan) (l_1:Line) (y10:List Course):(Int×List Int×List Int×List Int×List Int)->Option ((Int×List Int×List Int×List Int×List Int)⊕((List Int×List Int×List Int×List Int)⊕(Option zu×Bool×List Int×List Int×List Int×List Int))):=(λs39=>
cond (decide (s39.1<2)) (Zb (idx y10 s39.1) λx42=>
Zb (zbr p_0 l_1 x42) λy49=>
Zb (idx [(),()] s39.1) λx52=>
Zb (idx [(),()] s39.1) λx53=>
cond (!y49.2.2) (Ob (.inr (.inr ((Oe:Option zu),Oc,cond (s39.1==0) y49.1 s39.2.1,cond (s39.1==1) y49.1 s39.2.2.1,cond (s39.1==0) y49.2.1 s39.2.2.2.1,cond (s39.1==1) y49.2.1 s39.2.2.2.2)))) (Ob (.inl (w64 (s39.1+1),cond (s39.1==0) y49.1 s39.2.1,cond (s39.1==1) y49.1 s39.2.2.1,cond (s39.1==0) y49.2.1 s39.2.2.2.1,cond (s39.1==1) y49.2.1 s39.2.2.2.2)))) (Ob (.inr (.inl (s39.2.1,s39.2.2.1,s39.2.2.2.1,s39.2.2.2.2)))))
theorem zwo {p:Plan} {l:Line} {y:List Course} {c:Course} {i:Int} {r0 r1 o0 o1:List Int} (hi:i=0\/i=1) (hy:idx y i=Ob c) {r o:List Int} (hr:zbr p l c=Ob (r,o,Oc)):∃ T,zvr p l y (i,r0,r1,o0,o1)=Ob (.inr (.inr (Oe,Oc,T))):=by
 unfold zvr;rcases hi with rfl | rfl
 . simp only [show decide ((0:Int)<2)=Od from rfl,cond_true,hy,hr,Zs];exact ⟨_,rfl⟩
 . simp only [show decide ((1:Int)<2)=Od from rfl,cond_true,hy,hr,Zs];exact ⟨_,rfl⟩
theorem zvs {p:Plan} {l:Line} {r0 r1 o0 o1:List Int} {b0 b1:Bool} (h0:zbr p l l.1=Ob (r0,o0,b0)) (h1:zbr p l l.2.1=Ob (r1,o1,b1)):∃ T,iter (zvr p l [l.1,l.2.1]) big (0,[],[],[],[])=Ob (if (b0&&b1)=Od then .inl (r0,r1,o0,o1) else .inr (Oe,Oc,T)):=by
 cases b0 with
 | false=>
  obtain ⟨T,hT⟩:=zwo (r0:=[]) (r1:=[]) (o0:=[]) (o1:=[]) (y:=[l.1,l.2.1]) (.inl rfl) rfl h0;exact ⟨T,(Lp.done (N:=0) hT).big Of⟩
 | true=>
  have s0:zvr p l [l.1,l.2.1] (0,[],[],[],[])=Ob (.inl (1,r0,[],o0,[])):=by
   unfold zvr;simp only [show decide ((0:Int)<2)=Od from rfl,cond_true,show idx [l.1,l.2.1] (0:Int)=Ob l.1 from rfl,h0,Zs];rfl
  cases b1 with
  | false=>
   obtain ⟨T,hT⟩:=zwo (r0:=r0) (r1:=[]) (o0:=o0) (o1:=[]) (y:=[l.1,l.2.1]) (i:=1) (.inr rfl) rfl h1;exact ⟨T,(Lp.step s0 (Lp.done (N:=0) hT)).big Of⟩
  | true=>
   have s1:zvr p l [l.1,l.2.1] (1,r0,[],o0,[])=Ob (.inl (2,r0,r1,o0,o1)):=by
    unfold zvr;simp only [show decide ((1:Int)<2)=Od from rfl,cond_true,show idx [l.1,l.2.1] (1:Int)=Ob l.2.1 from rfl,h1,Zs];rfl
   have s2:zvr p l [l.1,l.2.1] (2,r0,r1,o0,o1)=Ob (.inr (.inl (r0,r1,o0,o1))):=rfl;exact ⟨([],[],[],[]),(Lp.step s0 (Lp.step s1 (Lp.done (N:=0) s2))).big Of⟩
theorem zmW {p:Plan} {l:Line} (H:ztW p l):zb5 p l=Ob (if (zbJ p&&zhb p l)=Od then (Ob (rnS p l),Od) else (Oe,Oc)):=by
 unfold zb5;rw [znZ,Zs];cases hv:zbJ p with
 | false=>rfl
 | true=>
 have hp:=zfo hv;simp only [if_true,show ((0:Int)!=0)=Oc from rfl,cond_false,zha,Zs,Bool.true_and];unfold zhb;cases hy:inB l.2.2.2.2.1 0 3600 with
 | false=>rfl
 | true=>
 simp only [Bool.not_true,cond_false,Bool.true_and,show zb9 l=Ob [l.1,l.2.1] from rfl,Zs];have e0:=ztg hv hp (l:=l) H.w1 H.s1 (H.b1 hv);have e1:=ztg hv hp (l:=l) H.w2 H.s2 (H.b2 hv);have f0:zbr p l l.1=Ob ((match zl2 p l l.1 with | some ms=>zyn ms l.1 | none=>[]),(match zl2 p l l.1 with | some ms=>zqb ms l.1 | none=>[]),okC p l l.1):=by
  rw [e0]; unfold okC;cases zl2 p l l.1<;>rfl
 have f1:zbr p l l.2.1=Ob ((match zl2 p l l.2.1 with | some ms=>zyn ms l.2.1 | none=>[]),(match zl2 p l l.2.1 with | some ms=>zqb ms l.2.1 | none=>[]),okC p l l.2.1):=by
  rw [e1]; unfold okC;cases zl2 p l l.2.1<;>rfl
 obtain ⟨T,hT⟩:=zvs f0 f1;unfold zvr at hT;rw [hT,Zs];cases h0:okC p l l.1 with
 | false=>rfl
 | true=>
 cases h1:okC p l l.2.1 with
 | false=>rfl
 | true=>
 simp only [Bool.and_self,if_true,zdN];unfold rnS msC;have g0:∃ ms,zl2 p l l.1=Ob ms:=by
  unfold okC at h0;cases hc:zl2 p l l.1 with
  | none=>rw [hc] at h0; cases h0
  | some ms=>exact ⟨ms,rfl⟩
 have g1:∃ ms,zl2 p l l.2.1=Ob ms:=by
  unfold okC at h1;cases hc:zl2 p l l.2.1 with
  | none=>rw [hc] at h1; cases h1
  | some ms=>exact ⟨ms,rfl⟩
 obtain ⟨m0,g0⟩:=g0;obtain ⟨m1,g1⟩:=g1;rw [g0,g1];rfl
def zdj (p:Plan) (l:Line) (c:Course):Int:=zjU (msC p l c) c (c.2.1.length-1)
def zol (p:Plan) (l:Line):Int:=zdj p l l.1+zdj p l l.2.1+2*l.2.2.2.2.1
structure ztX (p:Plan) (l:Line) (c:Course):Prop where
 e:zl2 p l c=Ob (msC p l c)
 C:ztd p c
 M:zAO c (msC p l c)
 l1:1<=zdj p l c
 l2:zdj p l c<=50000
structure zrn (p:Plan) (l:Line):Prop where
 y:0<=l.2.2.2.2.1/\l.2.2.2.2.1<=3600
 o:ztX p l l.1
 h:ztX p l l.2.1
theorem zAa {p:Plan} {l:Line} {c:Course} (h:okC p l c=Od) (hb:zm3 p c.1=Od->wlS p c.1<=62000000000):ztX p l c:=by
 unfold okC at h;cases hc:zl2 p l c with
 | none=>rw [hc] at h; cases h
 | some ms=>
  rw [hc] at h;simp only [decide_eq_true_eq] at h;obtain ⟨C,M⟩:=ztf hc hb;have hm:msC p l c=ms:=by unfold msC; rw [hc]; rfl
  have hn:=C.n;have h1:=zz9 C M (i:=0) (j:=c.2.1.length-1) J J;simp only [zjU] at h1;exact ⟨by rw [hm]; exact hc,C,by rw [hm]; exact M,by unfold zdj; rw [hm]; omega,by unfold zdj; rw [hm]; omega⟩
theorem zyo {p:Plan} {l:Line} (H:ztW p l) (hv:zbJ p=Od) (h:zhb p l=Od):zrn p l:=by
 unfold zhb at h;simp only [Bool.and_eq_true] at h;exact ⟨zas.1 h.1,zAa h.2.1 (H.b1 hv),zAa h.2.2 (H.b2 hv)⟩
theorem zvt (ms:List Int) (c:Course):(zqb ms c).length=c.2.1.length:=zgL _ _
theorem zkZ {p:Plan} {l:Line} {c:Course} (h:ztX p l c):idx (zqb (msC p l c) c) (w64 (zq (zqb (msC p l c) c)-1))=Ob (zdj p l c):=by
 have hn:=h.C.n;rw [zo,zvt,zk J J,show (c.2.1.length:Int)-1=((c.2.1.length-1:Nat):Int) by omega];exact zjc J
section
variable {p:Plan} {l:Line} (K:zrn p l)
include K
theorem zk0 (s:Bool):zx (rnS p l) (cond s 1 0)=Ob (cond s (zdj p l l.2.1) (zdj p l l.1)):=by
 unfold zx;cases s with
 | false=>
  simp only [cond_false];rw [show idx (rnS p l).2.2.1 (0:Int)=Ob (zqb (msC p l l.1) l.1) from rfl];simp only [Zs,zkZ K.o]
 | true=>
  simp only [cond_true];rw [show idx (rnS p l).2.2.1 (1:Int)=Ob (zqb (msC p l l.2.1) l.2.1) from rfl];simp only [Zs,zkZ K.h]
theorem zth:2<=zol p l/\zol p l<=107200:=by
 have h1:=K.o.l1;have h2:=K.o.l2;have h3:=K.h.l1;have h4:=K.h.l2;have h5:=K.y;unfold zol;omega
theorem zqc:zbs (rnS p l)=Ob (zol p l):=by
 have h1:=K.o.l1;have h2:=K.o.l2;have h3:=K.h.l1;have h4:=K.h.l2;have h5:=K.y;unfold zbs;rw [show zx (rnS p l) 0=_ from zk0 K Oc,show zx (rnS p l) 1=_ from zk0 K Od];simp only [Zs,cond_true,cond_false];show Ob (w64 (w64 (zdj p l l.1+zdj p l l.2.1)+w64 (2*l.2.2.2.2.1)))=_;rw [zk (n:=zdj p l l.1+_) J J,zk (n:=2*_) J J,zk J J];rfl
def zfM (p:Plan) (l:Line) (h:Int):Int:=(zol p l+h-1)/h
theorem zjV {h:Int} (hh:1<=h/\h<=1000000000000):zaP (rnS p l) h=Ob (zfM p l h):=by
 have:=zth K;unfold zaP;rw [zqc K,Zs,zk (n:=zol p l+h) J J,zk J J,zea ⟨by omega,by omega⟩ J];rfl
theorem ziD {h:Int} (hh:1<=h):1<=zfM p l h/\zfM p l h<=107200/\(zfM p l h-1)*h<zol p l/\zol p l<=zfM p l h*h/\zfM p l h*h<=zol p l+h-1:=by
 have hb:=zth K;obtain ⟨h1,h2⟩:=zyk (r:=zol p l) (show 0<h by omega);have h3:zfM p l h*h<=zol p l+h-1:=Int.ediv_mul_le _ J;have h4:1<=zfM p l h:=by
  unfold zfM;rw [Int.le_ediv_iff_mul_le J];omega
 have h5:zfM p l h<=zol p l:=by
  have:(zfM p l h-1)*1<=(zfM p l h-1)*h:=Int.mul_le_mul_of_nonneg_left J J;have h6:(zfM p l h-1)*h<zol p l:=h1;omega
 exact ⟨h4,by omega,h1,h2,h3⟩
end
def zh2 (l:Line) (home:Bool):Course:=cond home l.2.1 l.1
structure CIn (p:Plan) (c:Course):Prop where
 w:c.1.length<=9223372036854775807
 s:c.2.1.length<=9223372036854775807
 b:zm3 p c.1=Od->wlS p c.1<=62000000000
theorem ztW.c {p:Plan} {l:Line} (H:ztW p l) (hv:zbJ p=Od) (home:Bool):CIn p (zh2 l home):=by
 cases home
 . exact ⟨H.w1,H.s1,H.b1 hv⟩
 . exact ⟨H.w2,H.s2,H.b2 hv⟩
section
variable {p:Plan} {l:Line} {home:Bool} (hp:zjr p) (I:CIn p (zh2 l home))
include hp I
end
section
variable {p:Plan} {l:Line} (hv:zbJ p=Od) (H:ztW p l)
include hv H
end
theorem zyp (home:Bool):zf4 home=Ob (cond home 1 0):=by cases home<;>rfl
section
variable {p:Plan} {l:Line} (H:ztW p l)
include H
theorem zvu (home:Bool):zcd p l home=Ob (if (zbJ p&&zhb p l)=Od then (zqb (msC p l (zh2 l home)) (zh2 l home),0) else ([],2)):=by
 unfold zcd;rw [zmW H,Zs,zyp];cases (zbJ p&&zhb p l) with
 | false=>rfl
 | true=>cases home<;>rfl
theorem zBP (h:Int):zdg p l h=Ob (if (zbJ p&&zhb p l&&inB h 30 7200)=Od then (zfM p l h,0) else (0,2)):=by
 unfold zdg;rw [zmW H,Zs];cases hv:zbJ p with
 | false=>rfl
 | true=>
 cases hl:zhb p l with
 | false=>rfl
 | true=>
  have K:=zyo H hv hl;simp only [Bool.and_self,if_true,Bool.not_true,cond_false,zha,Zs,Bool.true_and];cases hi:inB h 30 7200 with
  | false=>rfl
  | true=>
   have hi:=zas.1 hi;simp only [Bool.not_true,cond_false,zjV K (show 1<=h/\h<=1000000000000 by omega),Zs,if_true]
end
structure zCI (p:Plan):Prop where
 n:p.1.length<=12
 r:p.2.1.length<=12
 l:zbJ p=Od->∀ i:Nat,i<p.2.1.length->zmN p i<=200000
structure zCJ (l:Line):Prop where
 w1:l.1.1.length<=12
 w2:l.2.1.1.length<=12
 s1:l.1.2.1.length<=6
 s2:l.2.1.2.1.length<=6
def hd0 (s:Service) (i:Nat):Int:=s.2.1.getD i 0
def of0 (s:Service) (i:Nat):Int:=s.2.2.1.getD i 0
def L0:Line:=(([],[],[],()),([],[],[],()),(0,0,0,0,0,0,0,0,0,[],()),0,0,())
def ln0 (s:Service) (i:Nat):Line:=s.1.getD i L0
def hoB (s:Service) (i:Nat):Bool:=inB (hd0 s i) 30 7200&&inB (of0 s i) 0 (hd0 s i-1)
def zq0 (p:Plan) (s:Service):Bool:=zbJ p&&(inB (zq s.1) 1 20&&(decide (s.2.1.length=s.1.length)&&(decide (s.2.2.1.length=s.1.length)&&((List.range s.1.length).all λi=>zhb p (ln0 s i)&&hoB s i))))
structure zl3 (p:Plan) (s:Service):Prop where
 n:s.1.length<=9223372036854775807
 h:s.2.1.length<=9223372036854775807
 l:∀ i,i<s.1.length->ztW p (ln0 s i)
theorem zvv {p:Plan} {ls:List Line} (hI:∀ i,i<ls.length->ztW p (ls.getD i L0)):zdx p ls=Ob (if (inB (zq ls) 1 20&&(List.range ls.length).all λi=>zbJ p&&zhb p (ls.getD i L0))=Od then (ls.map (rnS p),Od) else ([],Oc)):=by
  unfold zdx;rw [zha,Zs];cases hi:inB (zq ls) 1 20 with
  | false=>rfl
  | true=>
  have hi:=zas.1 hi;rw [zo] at hi;simp only [Bool.not_true,cond_false,Bool.true_and];have key:∀ k i:Nat,i+k=ls.length->Lp (λs10:List zu×Int=>
cond (decide (s10.2<zq ls)) (Zb (idx ls s10.2) λx13=>
Zb (zb5 p x13) λy15=>
cond (!y15.2) (Ob (.inr (.inr ([],Oc)))) (Zb y15.1 λp16=>
Zb (zcY 8 s10.1 ([p16])) λx17=>
Ob (.inl (x17,w64 (s10.2+1))))) (Ob (.inr (.inl s10.1:List zu⊕(List zu×Bool))))) k ((ls.take i).map (rnS p),(i:Int)) (if ((List.range' i k).all λi=>zbJ p&&zhb p (ls.getD i L0))=Od then .inl (ls.map (rnS p)) else .inr ([],Oc)):=by
    intro k;induction k with
    | zero=>
      intro i hi;have:i=ls.length:=J
      subst this;refine Lp.done ?_;simp only [zba,cond_false,List.take_length];rfl
    | succ k ih=>
      intro i hi;have hil:i<ls.length:=J
      have a1:idx ls (i:Int)=Ob (ls.getD i L0):=zI L0 hil;rw [List.range'_succ,List.all_cons];have ho:=zmW (hI i hil);cases hb:(zbJ p&&zhb p (ls.getD i L0)) with
      | false=>
        rw [hb] at ho;refine Lp.done ?_;simp only [za5 hil,cond_true,a1,Zs,ho,Bool.false_eq_true,if_false,Bool.not_false,Bool.false_and]
      | true=>
        rw [hb] at ho;rw [Bool.true_and];refine Lp.step ?_ (ih (i+1) J);have htk:(ls.take (i+1)).map (rnS p)=(ls.take i).map (rnS p)++[rnS p (ls.getD i L0)]:=by
          rw [List.take_add_one,List.map_append];simp [List.getD,hil]
        simp only [za5 hil,cond_true,a1,Zs,ho,if_true,Bool.not_true,cond_false];rw [zbf (by rw [List.length_map,List.length_take]; simp; omega),Zs,z7 J,htk]
  have hL:=(key ls.length 0 J).big Of;rw [show ((0:Nat):Int)=0 from rfl,← List.range_eq_range'] at hL;rw [show (ls.take 0).map (rnS p)=[] from rfl] at hL;rw [hL,Zs];cases ((List.range ls.length).all λi=>zbJ p&&zhb p (ls.getD i L0))<;>rfl
theorem zn7 {n:Nat} {f g:Nat->Bool}:((List.range n).all λi=>f i&&g i)=((List.range n).all f&&(List.range n).all g):=by
 rw [Bool.eq_iff_iff,Bool.and_eq_true,List.all_eq_true,List.all_eq_true,List.all_eq_true];constructor
 . intro h;refine ⟨λx hx=>?_,λx hx=>?_⟩
   . have:=h x hx; rw [Bool.and_eq_true] at this; exact this.1
   . have:=h x hx; rw [Bool.and_eq_true] at this; exact this.2
 . intro h x hx;rw [h.1 x hx,h.2 x hx]; rfl
theorem zjd {p:Plan} {s:Service} (H:zl3 p s):zcc p s=Ob (if zq0 p s=Od then (s.1.map (rnS p),Od) else ([],Oc)):=by
  unfold zcc zq0;have hh:=H.h;have hn:=H.n;by_cases h1:s.2.1.length=s.1.length;rotate_left
  · have e1:(zq s.2.1 !=zq s.1)=Od:=by rw [zo,zo]; simp only [bne_iff_ne,ne_eq]; omega
    rw [e1,decide_eq_false h1];simp
  have e1:(zq s.2.1 !=zq s.1)=Oc:=by rw [zo,zo,h1]; exact bne_self_eq_false _
  by_cases h2:s.2.2.1.length=s.1.length;rotate_left
  · have e2:(zq s.2.2.1 !=zq s.1)=Od:=by rw [zo,zo]; simp only [bne_iff_ne,ne_eq]; omega
    rw [e1,e2,decide_eq_false h2];simp
  have e2:(zq s.2.2.1 !=zq s.1)=Oc:=by rw [zo,zo,h2]; exact bne_self_eq_false _
  rw [e1,e2,decide_eq_true h1,decide_eq_true h2];simp only [cond_false,Zs,Bool.true_and];have h:=zkI (f:=λs17:Int=>
cond (decide (s17<zq s.2.1)) (Zb (idx s.2.1 s17) λx20=>
Zb (zT x20 30 7200) λy25=>
cond (!y25) (Ob (.inr (.inr ([],Oc)))) (Zb (idx s.2.2.1 s17) λx28=>
Zb (zT x28 0 (w64 (x20-1))) λy29=>
cond (!y29) (Ob (.inr (.inr ([],Oc)))) (Ob (.inl (w64 (s17+1)))))) (Ob (.inr (.inl ():Unit⊕(List zu×Bool))))) (λk=>(k:Int)) s.2.1.length (hoB s) (.inr ([],Oc)) (.inl ()) (s0:=0) rfl Of (λi hi=>by
      have a1:idx s.2.1 (i:Int)=Ob (hd0 s i):=zI 0 hi;have a2:idx s.2.2.1 (i:Int)=Ob (of0 s i):=zI 0 J;unfold hoB;simp only [za5 hi,cond_true,a1,a2,Zs,zha];cases hb:inB (hd0 s i) 30 7200 with
      | false=>rfl
      | true=>
        have hb:=zas.1 hb;simp only [Bool.not_true,cond_false,Bool.true_and];rw [zk J J,z7 J];cases inB (of0 s i) 0 (hd0 s i-1)<;>rfl) (by simp only [zba,cond_false])
  rw [h,Zs,h1,zn7];cases hA:(List.range s.1.length).all (hoB s) with
  | false=>
    simp;rfl
  | true=>
  simp only [if_true,zdN];rw [zvv H.l];have hr:=zn7 (n:=s.1.length) (f:=λ_=>zbJ p) (g:=λi=>zhb p (ln0 s i));unfold ln0 at hr;rw [hr];unfold ln0;cases hi:inB (zq s.1) 1 20 with
  | false=>simp
  | true=>
  have hi:=zas.1 hi;rw [zo] at hi;have hv:((List.range s.1.length).all λ_=>zbJ p)=zbJ p:=by
    obtain ⟨m,hm⟩:∃ m,s.1.length=m+1:=⟨s.1.length-1,by omega⟩;rw [hm,Bool.eq_iff_iff,List.all_eq_true];exact ⟨λh=>h 0 (List.mem_range.2 J),λh _ _=>h⟩
  rw [hv];simp only [Bool.and_true,Bool.true_and,Zs]
theorem zti {p:Plan} {s:Service} (H:zl3 p s):zey p s=Ob (if zq0 p s=Od then 0 else 2):=by
 unfold zey;rw [zjd H,Zs];cases zq0 p s<;>rfl
structure zom (p:Plan) (s:Service):Prop where
 v:zbJ p=Od
 n:1<=s.1.length/\s.1.length<=20
 h:s.2.1.length=s.1.length
 o:s.2.2.1.length=s.1.length
 l:∀ i,i<s.1.length->zhb p (ln0 s i)=Od
 hb:∀ i,i<s.1.length->30<=hd0 s i/\hd0 s i<=7200
 ob:∀ i,i<s.1.length->0<=of0 s i/\of0 s i<=hd0 s i-1
theorem zyq {p:Plan} {s:Service} (h:zq0 p s=Od):zom p s:=by
 unfold zq0 at h;simp only [Bool.and_eq_true,decide_eq_true_eq] at h;obtain ⟨h1,h2,h3,h4,h5⟩:=h;have h2:=zas.1 h2;rw [zo] at h2;have h6:∀ i,i<s.1.length->zhb p (ln0 s i)=Od/\hoB s i=Od:=λi hi=>by
  have:=List.all_eq_true.1 h5 i (List.mem_range.2 hi);rwa [Bool.and_eq_true] at this
 refine ⟨h1,by omega,h3,h4,λi hi=>(h6 i hi).1,λi hi=>?_,λi hi=>?_⟩
 . have:=(h6 i hi).2;unfold hoB at this;rw [Bool.and_eq_true] at this;exact zas.1 this.1
 . have:=(h6 i hi).2;unfold hoB at this;rw [Bool.and_eq_true] at this;exact zas.1 this.2
structure zCV (p:Plan) (s:Service):Prop where
 S:zCI p
 l:∀ i,i<s.1.length->zCJ (ln0 s i)
 n:s.1.length<=3
 h:s.2.1.length<=4
 o:s.2.2.1.length<=4
theorem zyr {A:Type} (x:Option A):(Zb x λy=>Ob y)=x:=by cases x<;>rfl
theorem zn8 {n h:Int} (hh:0<h) (h2:h<=1000000000000):zbV n h=Ob (n%h):=by
 have:=zyj (n:=n) hh h2;unfold zbV;simp only [zyr];exact this
def zjW (p:Plan) (l:Line) (home:Bool) (h o:Int):Int:=cond home (o+zdj p l l.1+l.2.2.2.2.1+(zfM p l h*h-zol p l)/2) o
section
variable {p:Plan} {l:Line} (K:zrn p l) {h o:Int} (hh:30<=h/\h<=7200) (ho:0<=o/\o<=100000)
include K hh ho
theorem zAb (home:Bool):o<=zjW p l home h o/\zjW p l home h o<=o+60000:=by
 obtain ⟨c1,c2,c3,c4,c5⟩:=ziD K (h:=h) J;have h1:=K.o.l1;have h2:=K.o.l2;have h5:=K.y;unfold zjW;cases home with
 | false=>simp only [cond_false]; omega
 | true=>simp only [cond_true]; omega
theorem zAc (home:Bool):zcl (rnS p l) (cond home 1 0) h o=Ob (zjW p l home h o):=by
 obtain ⟨c1,c2,c3,c4,c5⟩:=ziD K (h:=h) J;have hb:=zth K;have h1:=K.o.l1;have h2:=K.o.l2;have h5:=K.y;unfold zcl;cases home with
 | false=>rfl
 | true=>
  simp only [cond_true,show ((1:Int)==0)=Oc from rfl,cond_false];rw [show zx (rnS p l) 0=_ from zk0 K Oc,zjV K J,zqc K];simp only [Zs,cond_false];rw [zk (n:=zfM p l h*h) J J,zk (n:=zfM p l h*h-_) J J,zea ⟨by omega,by omega⟩ J,Zs];show Ob (w64 (w64 (w64 (o+zdj p l l.1)+l.2.2.2.2.1)+(zfM p l h*h-zol p l)/2))=_;rw [zk (n:=o+_) J J,zk (n:=o+_+_) J J,zk J J];rfl
end
section
variable {p:Plan} {s:Service} (V:zom p s) (H:zl3 p s)
include V H
theorem lnK {i:Nat} (hi:i<s.1.length):zrn p (ln0 s i):=zyo (H.l i hi) V.v (V.l i hi)
theorem zys:zq0 p s=Od:=by
 have hn:=V.n;unfold zq0;rw [V.v,decide_eq_true V.h,decide_eq_true V.o,zas.2 (show 1<=zq s.1/\zq s.1<=20 by rw [zo]; omega)];simp only [Bool.true_and];rw [List.all_eq_true];intro i hi;have hi:=List.mem_range.1 hi;rw [V.l i hi,Bool.true_and];unfold hoB;rw [zas.2 (V.hb i hi),zas.2 (V.ob i hi)]; rfl
end
section
variable {p:Plan} {ls:List Line} (hn:1<=ls.length/\ls.length<=20) (hK:∀ i,i<ls.length->zrn p (ls.getD i L0))
include hn hK
omit hn hK in
theorem zAd {i:Int} (hi:0<=i/\i<ls.length):idx (ls.map (rnS p)) i=Ob (rnS p (ls.getD i.toNat L0)):=by
 obtain ⟨k,rfl⟩:∃ k:Nat,i=(k:Int):=⟨i.toNat,by omega⟩;have h2:k<ls.length:=J
 rw [Int.toNat_natCast,zhY,List.getElem?_map,List.getElem?_eq_getElem h2];simp [List.getD,h2]
end
def wkB (p:Plan) (x:Works):Bool:=inB x.1 0 (p.2.1.length-1)&&(inB x.2.1 0 x.2.2.1&&!decide (x.2.2.1>200000))
def zAe (p:Plan) (w:List Works):Bool:=decide (zq w<=100)&&w.all (wkB p)
def W0:Works:=(0,0,0,())
theorem zq1 {A:Type} (l:List A) (q:A->Bool) (d:A):((List.range l.length).all λi=>q (l.getD i d))=l.all q:=by
 rw [Bool.eq_iff_iff,List.all_eq_true,List.all_eq_true];constructor
 . intro h x hx;obtain ⟨i,hi,rfl⟩:=List.getElem_of_mem hx;have:=h i (List.mem_range.2 hi);rwa [show l.getD i d=l[i] by simp [List.getD,hi]] at this
 . intro h i hi;have hi:=List.mem_range.1 hi;rw [show l.getD i d=l[i] by simp [List.getD,hi]];exact h _ (List.getElem_mem hi)
theorem zl4 {p:Plan} (hp:zjr p) (w:List Works) (hw:w.length<=9223372036854775807):zcV p w=Ob (zAe p w):=by
 unfold zcV zAe;by_cases h:zq w<=100
 . rw [decide_eq_true h];have hR:=hp.r;obtain ⟨k,g1,g2⟩:=zgj w hw (λx=>zbI x p) (λx=>!wkB p x) (λx _=>by
    unfold zbI wkB;simp only [zha,Zs];rw [zo,zk J J];cases inB x.1 0 ((p.2.1.length:Int)-1) with
    | false=>rfl
    | true=>
    cases inB x.2.1 0 x.2.2.1 with
    | false=>rfl
    | true=>cases decide (x.2.2.1>200000)<;>rfl)
   unfold zX zac;simp only [cond_true,Bool.true_and];rw [g1];simp only [Zs,g2];rw [zkG w _ W0,Bool.not_not];simp only [Bool.not_not];rw [zq1 w (wkB p) W0]
 . rw [decide_eq_false h]; rfl
def onB (way:List zad) (x:Works):Bool:=way.any λm=>m.1==x.1
def zBQ (way:List zad) (t last:Int) (x:Works):Bool:=onB way x&&(decide (t<x.2.2.1)&&decide (x.2.1<t+last))
def zBR (way:List zad) (w:List Works) (t last:Int):Bool:=!(w.any (zBQ way t last))
section
variable {p:Plan} {l:Line} (K:zrn p l)
include K
theorem zAf (home:Bool) {t:Int} (ht:-1000000000<=t/\t<=1000000000) (w:List Works) (hw:w.length<=9223372036854775807):zaE (rnS p l) (cond home 1 0) t w=Ob (zBR (zh2 l home).1 w t (zdj p l (zh2 l home))):=by
 have KC:ztX p l (zh2 l home):=by cases home; exact K.o; exact K.h
 have h1:=KC.l1;have h2:=KC.l2;have hW:=(zkS KC.C.w).n;have hla:zx (rnS p l) (cond home 1 0)=Ob (zdj p l (zh2 l home)):=by
  have:=zk0 K home;rw [this]; cases home<;>rfl
 have hcx:idx [l.1,l.2.1] (cond home 1 0)=Ob (zh2 l home):=by cases home<;>rfl
 unfold zaE;rw [show zb9 (rnS p l).1=Ob [l.1,l.2.1] from rfl,Zs,hcx,Zs];obtain ⟨k,g1,g2⟩:=zgj w hw (λx=>za3 x (zh2 l home).1 t (rnS p l) (cond home 1 0)) (zBQ (zh2 l home).1 t (zdj p l (zh2 l home))) (λx _=>by
  unfold za3 zBQ onB;obtain ⟨k,q1,q2⟩:=zgj (zh2 l home).1 J (λm=>zbL m x) (λm=>m.1==x.1) (λm _=>rfl);unfold za1 zaD;rw [q1];simp only [Zs,q2];cases ((zh2 l home).1.any λm=>m.1==x.1) with
  | false=>rfl
  | true=>
  cases decide (t<x.2.2.1) with
  | false=>rfl
  | true=>
   simp only [cond_true,hla,Zs,Bool.true_and];rw [zk J J])
 unfold zX zac;rw [g1];simp only [Zs,g2];rfl
end
def zq2 (p:Plan) (l:Line) (home:Bool) (h o from_:Int):Int:=-((zjW p l home h o-from_)/h)
def zf7 (p:Plan) (l:Line) (home:Bool) (h o from_:Int) (j:Nat):Int:=zjW p l home h o+(zq2 p l home h o from_+j)*h
def zAg (p:Plan) (l:Line) (home:Bool) (h o from_:Int) (j:Nat):Int:=(zq2 p l home h o from_+j)%zfM p l h
section
variable {p:Plan} {l:Line} (K:zrn p l) {h o from_:Int} (hh:30<=h/\h<=7200) (ho:0<=o/\o<=100000) (hf:0<=from_/\from_<=1000000) (home:Bool)
include K hh ho hf
theorem zk1:from_+(zjW p l home h o-from_)%h=zf7 p l home h o from_ 0:=by
 have:=ztb (base:=zjW p l home h o) (start:=from_) (h:=h);rw [this];unfold zf7 zq2;rw [show (-((zjW p l home h o-from_)/h)+((0:Nat):Int))=-((zjW p l home h o-from_)/h) by omega]
omit K hh ho hf in
theorem zhv (j:Nat):zf7 p l home h o from_ j+h=zf7 p l home h o from_ (j+1):=by
 unfold zf7;rw [show zq2 p l home h o from_+((j+1:Nat):Int)=(zq2 p l home h o from_+j)+1 by omega,Int.add_mul (zq2 p l home h o from_+j) 1 h,Int.one_mul];omega
theorem zhw (j:Nat):from_+j*30<=zf7 p l home h o from_ j/\from_<=zf7 p l home h o from_ j:=by
 induction j with
 | zero=>
  have h1:=zk1 K hh ho hf home;have h2:=Int.emod_nonneg (zjW p l home h o-from_) (show h≠0 by omega);omega
 | succ j ih=>
  rw [← zhv home j];omega
theorem ztj:zf7 p l home h o from_ 0<from_+h:=by
 have h1:=zk1 K hh ho hf home;have h2:=Int.emod_lt_of_pos (zjW p l home h o-from_) (show 0<h by omega);omega
theorem zyt {σ τ:Type} {step:σ->(Int×Int)->Option (σ⊕τ)} {N:Nat} (hN:N<1000000) (S:Nat->σ) (z:τ) (hb:zf7 p l home h o from_ N<=1000000000) (hs:∀ j,j<N->step (S j) (zf7 p l home h o from_ j,zAg p l home h o from_ j)=Ob (.inl (S (j+1)))) (he:step (S N) (zf7 p l home h o from_ N,zAg p l home h o from_ N)=Ob (.inr z)):zH step (S 0) (rnS p l) (cond home 1 0) h o from_=Ob (.inr z):=by
  have hB:=zAb K hh ho home;obtain ⟨c1,c2,c3,c4,c5⟩:=ziD K (h:=h) J;unfold zH;rw [zAc K hh ho home,Zs,zk (n:=zjW p l home h o-from_) J J,zn8 J J,Zs];have h2:=Int.emod_lt_of_pos (zjW p l home h o-from_) (show 0<h by omega);have h3:=Int.emod_nonneg (zjW p l home h o-from_) (show h≠0 by omega);rw [zk (n:=from_+_) J J,zk1 K hh ho hf home];have hmono:∀ j,j<=N->zf7 p l home h o from_ j<=zf7 p l home h o from_ N:=by
    intro j hj;induction N with
    | zero=>
      have:j=0:=J
      subst this; exact Int.le_refl _
    | succ N ih=>
      by_cases e:j=N+1
      · subst e; exact Int.le_refl _
      · have h5:zf7 p l home h o from_ j<=zf7 p l home h o from_ N:=by
          have h7:∀ a b:Nat,a<=b->zf7 p l home h o from_ a<=zf7 p l home h o from_ b:=by
            intro a b hab;induction b with
            | zero=>
              have:a=0:=J
              subst this; exact Int.le_refl _
            | succ b ihb=>
              by_cases e2:a=b+1
              · subst e2; exact Int.le_refl _
              · have:=ihb J;rw [← zhv home b]; omega
          exact h7 j N J
        rw [← zhv home N]; omega
  have hcar:∀ j,j<=N->(Zb (zf6 .i64 (w64 (zf7 p l home h o from_ j-zjW p l home h o)) h) λx36=>zbV x36 (zfM p l h))=Ob (zAg p l home h o from_ j):=by
    intro j hj;have h5:=hmono j hj;have h6:=zhw K hh ho hf home j;have e:zf7 p l home h o from_ j-zjW p l home h o=(zq2 p l home h o from_+j)*h:=by unfold zf7; omega
    have e2:((zq2 p l home h o from_+j)*h).tdiv h=zq2 p l home h o from_+j:=zz5 J;have hq:=zsB (a:=(zq2 p l home h o from_+j)*h) (A:=1000000000) (b:=h) J ⟨by omega,by omega⟩;have e3:zf6 .i64 (w64 (zf7 p l home h o from_ j-zjW p l home h o)) h=Ob (zq2 p l home h o from_+j):=by
      rw [zk J J,e];unfold zf6;rw [if_neg J,e2];rw [e2] at hq;exact congrArg Ob (zk J J)
    rw [e3,Zs,zn8 J J];rfl
  have key:∀ k i:Nat,i+k=N->Lp (λs28:Int×(σ⊕τ)=>
Zb (zf6 .i64 (w64 (s28.1-zjW p l home h o)) h) λx36=>
Zb (zaP (rnS p l) h) λy37=>
Zb (zbV x36 y37) λy38=>
Zb (goL s28.2) λs39=>
Zb (step s39 (s28.1,y38)) λy40=>
cond (!(y40).isLeft) (Ob (.inr y40)) (Ob (.inl (w64 (s28.1+h),y40)))) k (zf7 p l home h o from_ i,.inl (S i)) (.inr z):=by
    intro k;induction k with
    | zero=>
      intro i hi;have:i=N:=J
      subst this;have hc:=hcar i (Nat.le_refl _);cases hd:zf6 .i64 (w64 (zf7 p l home h o from_ i-zjW p l home h o)) h with
      | none=>rw [hd] at hc; cases hc
      | some q=>
        rw [hd,Zs] at hc;refine Lp.done ?_;simp only [hd,Zs,zjV K (show 1<=h/\h<=1000000000000 by omega),hc,goL,he];rfl
    | succ k ih=>
      intro i hi;have hc:=hcar i J;have h5:=hmono i J;have h6:=zhw K hh ho hf home i;cases hd:zf6 .i64 (w64 (zf7 p l home h o from_ i-zjW p l home h o)) h with
      | none=>rw [hd] at hc; cases hc
      | some q=>
        rw [hd,Zs] at hc;refine Lp.step ?_ (ih (i+1) J);simp only [hd,Zs,zjV K (show 1<=h/\h<=1000000000000 by omega),hc,goL,hs i J];rw [zk (n:=zf7 p l home h o from_ i+h) J J,zhv];rfl
  rw [(key N 0 J).big Of];rfl
end
section
variable {c:Course} {ms:List Int} {p:Plan} (C:ztd p c) (M:zAO c ms) {f:Int} (hf:100<=f/\f<=400)
include C M hf
end
section
variable {p:Plan} {l:Line} {home:Bool} (K:ztX p l (zh2 l home)) {f:Int} (hf:100<=f/\f<=400)
include K hf
end
section
variable {n:Nat} {X O:Nat->Int} {h gap D base:Int} (hn:n<=1000) (hh:30<=h/\h<=7200) (hg:1<=gap/\gap<=3600) (hX:∀ i,i<n->0<=X i/\X i<=10000000) (hO:∀ i,i<n->0<=O i/\O i<=10000000) (hD:0<=D/\D<=10000000) (hB:0<=base/\base<=10000000)
include hn hh hg hX hO hD hB
end
section
variable {p:Plan} {l:Line} {home:Bool} (KL:zrn p l) {h o f gap D:Int} (hh:30<=h/\h<=7200) (ho:0<=o/\o<=100000) (hf:100<=f/\f<=400) (hg:1<=gap/\gap<=3600) (hD:0<=D/\D<=1000000)
include KL hh ho hf hg hD
omit hh ho hf hg hD in
theorem csO:ztX p l (zh2 l home):=by
 cases home
 . exact KL.o
 . exact KL.h
end
structure zCK (p:Plan) (s:Service) (line f gap:Int):Prop where
 V:zom p s
 l:0<=line/\line<s.1.length
 f:100<=f/\f<=400
 g:1<=gap/\gap<=3600
section
variable {p:Plan} {s:Service} (H:zl3 p s) {line f gap:Int} (S:zCK p s line f gap)
include H S
end
structure zyu (p:Plan) (l:Line) (home:Bool) (h o from_ last before:Int) (N:Nat):Prop where
 b:N<300000
 i:∀ j,j<N->zf7 p l home h o from_ j+last<=before
 e:before<zf7 p l home h o from_ N+last
section
variable {p:Plan} {l:Line} (K:zrn p l) {h o from_:Int} (hh:30<=h/\h<=7200) (ho:0<=o/\o<=100000) (hf:0<=from_/\from_<=1000000) (home:Bool)
include K hh ho hf
theorem zAh {last before:Int} (hl:0<=last/\last<=1000000) (hb:0<=before/\before<=200000) {N:Nat} (C:zyu p l home h o from_ last before N):∀ j,j<=N->0<=zf7 p l home h o from_ j/\zf7 p l home h o from_ j<=2000000:=by
 intro j hj;have h1:=zhw K hh ho hf home j;refine ⟨by omega, ?_⟩;cases j with
 | zero=>
  have:=ztj K hh ho hf home;omega
 | succ j=>
  have:=C.i j J;have h2:=zhv (p:=p) (l:=l) (h:=h) (o:=o) (from_:=from_) home j;omega
end
section
variable {p:Plan} {s:Service} (V:zom p s) (H:zl3 p s) {line:Int} (hl:0<=line/\line<s.1.length) {w:List Works} (hw:w.length<=9223372036854775807) (home:Bool) {before:Int} (hb:0<=before/\before<=200000)
include V H hl hb
end
theorem zgM {A:Type} (L:List A) (x:A) (R:List A):idx (L++x::R) (L.length:Int)=Ob x:=by
 rw [zhY]; simp
theorem zhc {A:Type} (L:List A) (x y:A) (R:List A):(L++x::R).set L.length y=L++y::R:=by
 simp
section
variable {cmp:(Trip×Trip)->Option Int}
theorem zo7 (P X Q Y S:List Trip) (hn:Y.length=X.length) (hl:(P++X++Q++Y++S).length<1000000000000) :
    zp (P++X++Q++Y++S) P.length ((P.length+X.length+Q.length:Nat):Int) X.length cmp=Ob (P++Y++Q++X++S):=by
  unfold zp;simp only [List.length_append] at hl;have key:∀ (X2 Y2 X1 Y1:List Trip),X=X1++X2->Y=Y1++Y2->X1.length=Y1.length->X2.length=Y2.length ->
      Lp (λs11:Int×List Trip=>
cond (decide (s11.1<(X.length:Int))) (Zb (idx s11.2 (w64 (((P.length+X.length+Q.length:Nat):Int)+s11.1))) λx14=>
Zb (idx s11.2 (w64 ((P.length:Int)+s11.1))) λx15=>
Zb (idx s11.2 (w64 ((P.length:Int)+s11.1))) λ_=>
Zb (idx ((s11.2).set (Int.toNat (w64 ((P.length:Int)+s11.1))) x14) (w64 (((P.length+X.length+Q.length:Nat):Int)+s11.1))) λ_=>
Ob (.inl (w64 (s11.1+1),((s11.2).set (Int.toNat (w64 ((P.length:Int)+s11.1))) x14).set (Int.toNat (w64 (((P.length+X.length+Q.length:Nat):Int)+s11.1))) x15))) (Ob (.inr s11.2))) X2.length ((X1.length:Int),P++Y1++X2++Q++X1++Y2++S) (P++Y++Q++X++S):=by
    intro X2;induction X2 with
    | nil=>
      intro Y2 X1 Y1 hX hY h1 h2;have hY2:Y2=[]:=List.length_eq_zero_iff.1 (by simpa using h2.symm);subst hY2;simp only [List.append_nil] at hX hY ⊢;subst hX hY;refine Lp.done ?_;simp only [Int.lt_irrefl,decide_false,cond_false]
    | cons x X2 ih=>
      intro Y2 X1 Y1 hX hY h1 h2;cases Y2 with
      | nil=>cases h2
      | cons y Y2=>
        have hlx:X.length=X1.length+(X2.length+1):=by rw [hX]; simp
        have hr:=ih Y2 (X1++[x]) (Y1++[y]) (by rw [hX]; simp) (by rw [hY]; simp) (by simp [h1]) (by simpa using h2);refine Lp.step ?_ hr;have ea:w64 ((P.length:Int)+(X1.length:Int))=((P.length+X1.length:Nat):Int):=by rw [zk J J]; omega
        have eb:w64 (((P.length+X.length+Q.length:Nat):Int)+(X1.length:Int))=((P.length+X.length+Q.length+X1.length:Nat):Int):=by rw [zk J J]; omega
        simp only [ea,eb,Int.toNat_natCast];rw [decide_eq_true J,cond_true];have e1:idx (P++Y1++x::X2++Q++X1++y::Y2++S) ((P.length+X.length+Q.length+X1.length:Nat):Int)=Ob y:=by
          have e:P++Y1++x::X2++Q++X1++y::Y2++S=(P++Y1++x::X2++Q++X1)++y::(Y2++S):=by simp
          have hl2:P.length+X.length+Q.length+X1.length=(P++Y1++x::X2++Q++X1).length:=by simp; omega
          rw [e,hl2]; exact zgM _ _ _
        have e2:∀ z:Trip,idx (P++Y1++z::X2++Q++X1++y::Y2++S) ((P.length+X1.length:Nat):Int)=Ob z:=by
          intro z;have e:P++Y1++z::X2++Q++X1++y::Y2++S=(P++Y1)++z::(X2++Q++X1++y::Y2++S):=by simp
          have hl2:P.length+X1.length=(P++Y1).length:=by simp; omega
          rw [e,hl2]; exact zgM _ _ _
        have e3:(P++Y1++x::X2++Q++X1++y::Y2++S).set (P.length+X1.length) y=P++Y1++y::X2++Q++X1++y::Y2++S:=by
          have e:∀ z,P++Y1++z::X2++Q++X1++y::Y2++S=(P++Y1)++z::(X2++Q++X1++y::Y2++S):=by simp
          have hl2:P.length+X1.length=(P++Y1).length:=by simp; omega
          rw [e,hl2,zhc,← e]
        have e4:∀ z:Trip,(P++Y1++y::X2++Q++X1++z::Y2++S).set (P.length+X.length+Q.length+X1.length) x=P++Y1++y::X2++Q++X1++x::Y2++S:=by
          intro z;have e:∀ u,P++Y1++y::X2++Q++X1++u::Y2++S=(P++Y1++y::X2++Q++X1)++u::(Y2++S):=by simp
          have hl2:P.length+X.length+Q.length+X1.length=(P++Y1++y::X2++Q++X1).length:=by simp; omega
          rw [e,hl2,zhc,← e]
        have e5:idx (P++Y1++y::X2++Q++X1++y::Y2++S) ((P.length+X.length+Q.length+X1.length:Nat):Int)=Ob y:=by
          have e:P++Y1++y::X2++Q++X1++y::Y2++S=(P++Y1++y::X2++Q++X1)++y::(Y2++S):=by simp
          have hl2:P.length+X.length+Q.length+X1.length=(P++Y1++y::X2++Q++X1).length:=by simp; omega
          rw [e,hl2]; exact zgM _ _ _
        rw [e1,Zs,e2 x,Zs,Zs,e3,e5,Zs,e4 y,z7 J];have e6:P++Y1++y::X2++Q++X1++x::Y2++S=P++(Y1++[y])++X2++Q++(X1++[x])++Y2++S:=by simp
        rw [e6];simp
  have hL:=key X Y [] [] rfl rfl rfl hn.symm;simp only [List.append_nil,List.length_nil] at hL;have hB:=hL.big Of;exact congrArg (λo=>Zb o λt18=>Ob t18) hB
theorem zAi (P U V S:List Trip) (hl:(P++U++V++S).length<1000000000000) (hU:U≠[]) (hV:V≠[]) :
    zZ (P++U++V++S) P.length ((P.length+U.length:Nat):Int) ((P.length+U.length+V.length:Nat):Int) cmp=Ob (P++V++U++S):=by
  unfold zZ;have key:∀ (n:Nat) (P' U' V' S':List Trip),U'.length+V'.length<=n->U'≠[]->V'≠[]->(P'++U'++V'++S').length<1000000000000->P'.length+U'.length=P.length+U.length ->
      ∃ (i:Int) (D:List Trip),Lp (λs13:Int×Int×List Trip=>
cond (s13.1 !=s13.2.1) (cond (decide (s13.1>s13.2.1)) (Zb (zp s13.2.2 (w64 (((P.length+U.length:Nat):Int)-s13.1)) ((P.length+U.length:Nat):Int) s13.2.1 cmp) λy17=>
Ob (.inl (w64 (s13.1-s13.2.1),s13.2.1,y17))) (Zb (zp s13.2.2 (w64 (((P.length+U.length:Nat):Int)-s13.1)) (w64 (w64 (((P.length+U.length:Nat):Int)+s13.2.1)-s13.1)) s13.1 cmp) λy19=>
Ob (.inl (s13.1,w64 (s13.2.1-s13.1),y19)))) (Ob (.inr (s13.1,s13.2.2)))) n ((U'.length:Int),(V'.length:Int),P'++U'++V'++S') (i,D)/\zp D (w64 (((P.length+U.length:Nat):Int)-i)) ((P.length+U.length:Nat):Int) i cmp=Ob (P'++V'++U'++S'):=by
    intro n;induction n with
    | zero=>
      intro P' U' V' S' h _ hv;exact absurd (List.length_eq_zero_iff.1 J) hv
    | succ n ih=>
      intro P' U' V' S' h hu hv hlen hm;have hul:1<=U'.length:=by have:=List.length_pos_iff.2 hu; omega
      have hvl:1<=V'.length:=by have:=List.length_pos_iff.2 hv; omega
      have hlen2:=hlen;simp only [List.length_append] at hlen2;have em:w64 (((P.length+U.length:Nat):Int)-(U'.length:Int))=(P'.length:Int):=by rw [zk J J]; omega
      rcases Nat.lt_trichotomy U'.length V'.length with hc | hc | hc
      · -- the second block is longer
        obtain ⟨V1,V2,rfl,hv2⟩:∃ V1 V2,V'=V1++V2/\V2.length=U'.length:=⟨V'.take (V'.length-U'.length),V'.drop (V'.length-U'.length),(List.take_append_drop _ _).symm,by simp; omega⟩;rw [List.length_append] at hc hvl h;simp only [List.length_append] at hlen2;have hv2n:V2≠[]:=by intro e; rw [e] at hv2; simp at hv2; omega
        have hv1n:V1≠[]:=by intro e; rw [e] at hc; simp at hc; omega
        obtain ⟨i,D,h1,h2⟩:=ih P' V2 V1 (U'++S') J hv2n hv1n (by simp only [List.length_append] at hlen ⊢; omega) J;refine ⟨i,D,Lp.step ?_ h1, ?_⟩
        · have hsw:=zo7 (cmp:=cmp) P' U' V1 V2 S' hv2 (by simp only [List.length_append] at hlen ⊢; omega);have ne:((U'.length:Int)!=(((V1++V2).length:Nat):Int))=Od:=by rw [List.length_append]; simp; omega
          simp only [em,ne,cond_true];rw [List.length_append,decide_eq_false J,cond_false];have e1:w64 (w64 (((P.length+U.length:Nat):Int)+((V1.length+V2.length:Nat):Int))-(U'.length:Int))=((P'.length+U'.length+V1.length:Nat):Int):=by
            rw [zk (n:=((P.length+U.length:Nat):Int)+_) J J,zk J J]; omega
          have e2:w64 (((V1.length+V2.length:Nat):Int)-(U'.length:Int))=(V1.length:Int):=by rw [zk J J]; omega
          have e3:P'++U'++(V1++V2)++S'=P'++U'++V1++V2++S':=by simp
          rw [e1,e2,e3,hsw,Zs,hv2];have e4:P'++V2++V1++U'++S'=P'++V2++V1++(U'++S'):=by simp
          rw [e4]
        · rw [h2]; simp
      · -- equal
        refine ⟨(U'.length:Int),P'++U'++V'++S',Lp.done ?_, ?_⟩
        · have ne:((U'.length:Int)!=(V'.length:Int))=Oc:=by simp; omega
          simp only [ne,cond_false]
        · rw [em];have hsw:=zo7 (cmp:=cmp) P' U' [] V' S' hc.symm (by simpa using hlen);simp only [List.append_nil,List.length_nil,Nat.add_zero,hm] at hsw;exact hsw
      · -- the first block is longer
        obtain ⟨U1,U2,rfl,hu1⟩:∃ U1 U2,U'=U1++U2/\U1.length=V'.length:=⟨U'.take V'.length,U'.drop V'.length,(List.take_append_drop _ _).symm,by simp; omega⟩;rw [List.length_append] at hc hul h hm;simp only [List.length_append] at hlen2;have hu1n:U1≠[]:=by intro e; rw [e] at hu1; simp at hu1; omega
        have hu2n:U2≠[]:=by intro e; rw [e] at hc; simp at hc; omega
        obtain ⟨i,D,h1,h2⟩:=ih (P'++V') U2 U1 S' J hu2n hu1n (by simp only [List.length_append] at hlen ⊢; omega) On;refine ⟨i,D,Lp.step ?_ h1, ?_⟩
        · have hsw:=zo7 (cmp:=cmp) P' U1 U2 V' S' hu1.symm (by simp only [List.length_append] at hlen ⊢; omega);rw [List.length_append] at em;have ne:((((U1++U2).length:Nat):Int)!=(V'.length:Int))=Od:=by rw [List.length_append]; simp; omega
          simp only [ne,cond_true];rw [List.length_append,decide_eq_true J,cond_true,em];have e2:w64 (((U1.length+U2.length:Nat):Int)-(V'.length:Int))=(U2.length:Int):=by rw [zk J J]; omega
          have e3:P'++(U1++U2)++V'++S'=P'++U1++U2++V'++S':=by simp
          have e5:P'.length+U1.length+U2.length=P.length+U.length:=J
          rw [e5] at hsw;rw [e2,e3,← hu1,hsw,Zs]
        · rw [h2]; simp
  obtain ⟨i,D,h1,h2⟩:=key (U.length+V.length) P U V S (Nat.le_refl _) hU hV hl rfl;simp only [List.length_append] at hl;have e1:w64 (((P.length+U.length:Nat):Int)-(P.length:Int))=(U.length:Int):=by rw [zk J J]; omega
  have e2:w64 (((P.length+U.length+V.length:Nat):Int)-((P.length+U.length:Nat):Int))=(V.length:Int):=by rw [zk J J]; omega
  rw [e1,e2];have hB:=h1.big Of;refine (congrArg (λo=>Zb o λt21:Int×List Trip=>Zb (zp t21.2 (w64 (((P.length+U.length:Nat):Int)-t21.1)) ((P.length+U.length:Nat):Int) t21.1 cmp) λy23=>Ob y23) hB).trans ?_;rw [Zs,h2,Zs]
end
def zdb (key:Trip->Int) (l m:List Trip):Prop:=∀ v:Int,m.filter (λx=>key x==v)=l.filter (λx=>key x==v)
def zfr (key:Trip->Int) (l:List Trip):Prop:=l.Pairwise λa b=>key a<=key b
theorem zdb.refl {key:Trip->Int} (l:List Trip):zdb key l l:=λ_=>rfl
theorem zdb.trans {key:Trip->Int} {l m n:List Trip} (h1:zdb key l m) (h2:zdb key m n):zdb key l n:=λv=>(h2 v).trans (h1 v)
theorem zdb.append {key:Trip->Int} {l m l' m':List Trip} (h1:zdb key l m) (h2:zdb key l' m'):zdb key (l++l') (m++m'):=λv=>by
 rw [List.filter_append,List.filter_append,h1 v,h2 v]
theorem zdb.mem {key:Trip->Int} {l m:List Trip} (h:zdb key l m) {x:Trip}:x∈m↔x∈l:=by
 have h1:=h (key x);constructor
 . intro hx;have:x∈m.filter (λy=>key y==key x):=List.mem_filter.2 ⟨hx,by simp⟩;rw [h1] at this;exact (List.mem_filter.1 this).1
 . intro hx;have:x∈l.filter (λy=>key y==key x):=List.mem_filter.2 ⟨hx,by simp⟩;rw [← h1] at this;exact (List.mem_filter.1 this).1
theorem zh3 {key:Trip->Int} {l:List Trip} {v:Int} (h:∀ x∈l,key x≠v):l.filter (λx=>key x==v)=[]:=by
 rw [List.filter_eq_nil_iff];intro x hx;simpa using h x hx
theorem zdb.swap {key:Trip->Int} {U V:List Trip} (h:∀ u∈U,∀ v∈V,key v<key u):zdb key (U++V) (V++U):=λk=>by
 rw [List.filter_append,List.filter_append];by_cases hu:∃ u∈U,key u=k
 . obtain ⟨u,h1,h2⟩:=hu;rw [zh3 (l:=V) (v:=k) (λv hv=>by have:=h u h1 v hv; omega)];simp
 . rw [zh3 (l:=U) (v:=k) (λu hu1 he=>hu ⟨u,hu1,he⟩)];simp
theorem zdb.len {key:Trip->Int}:∀ {l m:List Trip},zdb key l m->m.length=l.length
 | [],m,h=>by
  cases m with
  | nil=>rfl
  | cons x m=>exact absurd ((h.mem (x:=x)).1 Ol) Ol
 | a::l,m,h=>by
  have hm:a∈m:=h.mem.2 Ol;have h1:=h (key a)
  -- the first one of a's key in m is a
  obtain ⟨m1,b,m2,rfl,hb,hn⟩:∃ m1 b m2,m=m1++b::m2/\key b=key a/\∀ x∈m1,key x≠key a:=by
   clear h1 h;induction m with
   | nil=>simp at hm
   | cons c m ih=>
    by_cases hc:key c=key a
    ·exact ⟨[],c,m,rfl,hc,by simp⟩
    ·have hm2:a∈m:=by
      rcases List.mem_cons.1 hm with rfl | h
      ·exact absurd rfl hc
      ·exact h
     obtain ⟨m1,b,m2,e,h2,h3⟩:=ih hm2;refine ⟨c::m1,b,m2,by rw [e]; rfl,h2,λx hx=>?_⟩;rcases List.mem_cons.1 hx with rfl | hx
     ·exact hc
     ·exact h3 x hx
  have hE:zdb key l (m1++m2):=λv=>by
   have h2:=h v;rw [List.filter_append,List.filter_cons,List.filter_cons] at h2;rw [List.filter_append];by_cases hv:key a=v
   ·subst hv;rw [zh3 hn] at h2 ⊢;simp only [hb,beq_self_eq_true,if_true,List.nil_append,List.cons.injEq] at h2;simpa using h2.2
   ·simp only [hb,show (key a==v)=Oc by simpa using hv,Bool.false_eq_true,if_false] at h2;exact h2
  have:=zdb.len hE;simp only [List.length_append,List.length_cons] at this ⊢;omega
section
variable {cmp:(Trip×Trip)->Option Int} {key:Trip->Int} (hc:∀ x y,∃ v,cmp (x,y)=Ob v/\(v<0↔key x<key y))
include hc
theorem zk2 (x y:Trip) {A:Type} (f:Bool->Option A):(Zb (cmp (x,y)) λv=>f (decide (v<0)))=f (decide (key x<key y)):=by
 obtain ⟨v,h1,h2⟩:=hc x y;rw [h1,Zs];congr 1;exact decide_eq_decide.2 h2
def zyX (a_1:Int) (cmp_3:(Trip×Trip)->Option Int):(Int×List Trip)->Option ((Int×List Trip)⊕List Trip):=(λs126=>
cond (decide (s126.1>a_1)) (Zb (idx s126.2 s126.1) λx133=>
Zb (idx s126.2 (w64 (s126.1-1))) λx134=>
Zb (cmp_3 (x133,x134)) λy135=>
cond (decide (y135<0)) (Zb (idx s126.2 (w64 (s126.1-1))) λx137=>
Zb (idx s126.2 s126.1) λx138=>
Zb (idx s126.2 s126.1) λx139=>
Zb (idx ((s126.2).set (Int.toNat s126.1) x137) (w64 (s126.1-1))) λx140=>
Ob (.inl (w64 (s126.1-1),((s126.2).set (Int.toNat s126.1) x137).set (Int.toNat (w64 (s126.1-1))) x138))) (Ob (.inr s126.2))) (Ob (.inr s126.2)))
theorem zvw (P S:List Trip) (x:Trip):∀ (n:Nat) (L R:List Trip),L.length=n->zfr key (L++R)->(∀ r∈R,key x<key r)->(P++L++x::R++S).length<1000000000000 ->
    ∃ M,Lp (zyX P.length cmp) n (((P.length+L.length:Nat):Int),P++L++x::R++S) (P++M++S)/\zfr key M/\zdb key (L++x::R) M:=by
  intro n;induction n with
  | zero=>
    intro L R hL hs hr hl;have:L=[]:=List.length_eq_zero_iff.1 hL;subst this;refine ⟨x::R,Lp.done ?_, ?_,zdb.refl _⟩
    · unfold zyX;simp only [List.length_nil,Nat.add_zero,List.append_nil,decide_eq_false (show ¬ (P.length:Int)>P.length by omega),cond_false]
    · exact List.pairwise_cons.2 ⟨λr h=>by have:=hr r h; omega,by unfold zfr at hs; simpa using hs⟩
  | succ n ih=>
    intro L R hL hs hr hl;obtain ⟨L0,y,rfl⟩:∃ L0 y,L=L0++[y]:=by
      cases h:L.reverse with
      | nil=>rw [List.reverse_eq_nil_iff] at h; subst h; simp at hL
      | cons y l=>exact ⟨l.reverse,y,by rw [← List.reverse_reverse L,h]; simp⟩
    have hL0:L0.length=n:=by simpa using hL
    have hl2:=hl;simp only [List.length_append,List.length_cons,List.length_nil] at hl2;have i1:idx (P++(L0++[y])++x::R++S) ((P.length+(L0++[y]).length:Nat):Int)=Ob x:=by
      have e:P++(L0++[y])++x::R++S=(P++(L0++[y]))++x::(R++S):=by simp
      have hn:P.length+(L0++[y]).length=(P++(L0++[y])).length:=by simp
      rw [e,hn]; exact zgM _ _ _
    have em:w64 (((P.length+(L0++[y]).length:Nat):Int)-1)=((P.length+L0.length:Nat):Int):=by
      simp only [List.length_append,List.length_cons,List.length_nil];rw [zk J J]; omega
    have i2:∀ z,idx (P++(L0++[y])++z::R++S) ((P.length+L0.length:Nat):Int)=Ob y:=by
      intro z;have e:P++(L0++[y])++z::R++S=(P++L0)++y::(z::R++S):=by simp
      have hn:P.length+L0.length=(P++L0).length:=by simp
      rw [e,hn]; exact zgM _ _ _
    have hgt:decide (((P.length+(L0++[y]).length:Nat):Int)>(P.length:Int))=Od:=decide_eq_true (by simp only [List.length_append,List.length_cons,List.length_nil]; omega);by_cases hk:key x<key y
    · have hr':∀ r∈y::R,key x<key r:=λr h=>by
        rcases List.mem_cons.1 h with rfl | h
        · exact hk
        · exact hr r h
      obtain ⟨M,h1,h2,h3⟩:=ih L0 (y::R) hL0 (by simpa using hs) hr' (by simp only [List.length_append,List.length_cons]; omega);refine ⟨M,Lp.step ?_ h1,h2, ?_⟩
      · unfold zyX;simp only [hgt,cond_true,i1,Zs,em,i2 x];rw [zk2 hc x y (λb=>cond b _ _),decide_eq_true hk,cond_true];have s1:(P++(L0++[y])++x::R++S).set (P.length+(L0++[y]).length) y=P++(L0++[y])++y::R++S:=by
          have e:∀ z,P++(L0++[y])++z::R++S=(P++(L0++[y]))++z::(R++S):=by simp
          have hn:P.length+(L0++[y]).length=(P++(L0++[y])).length:=by simp
          rw [e,hn,zhc,← e]
        have s2:(P++(L0++[y])++y::R++S).set (P.length+L0.length) x=P++L0++x::(y::R)++S:=by
          have e:P++(L0++[y])++y::R++S=(P++L0)++y::(y::R++S):=by simp
          have hn:P.length+L0.length=(P++L0).length:=by simp
          rw [e,hn,zhc]; simp
        simp only [Int.toNat_natCast,s1,i2 y,Zs,s2]
      · refine zdb.trans ?_ h3;have e1:L0++[y]++x::R=L0++(([y]++[x])++R):=by simp
        have e2:L0++x::y::R=L0++(([x]++[y])++R):=by simp
        rw [e1,e2];exact (zdb.refl L0).append ((zdb.swap (by simpa using hk)).append (zdb.refl R))
    · refine ⟨L0++[y]++x::R,Lp.done ?_, ?_,zdb.refl _⟩
      · unfold zyX;simp only [hgt,cond_true,i1,Zs,em,i2 x];rw [zk2 hc x y (λb=>cond b _ _),decide_eq_false hk,cond_false];simp
      · unfold zfr at *
        rw [List.append_assoc] at hs ⊢;rw [List.pairwise_append] at hs ⊢;obtain ⟨p1,p2,p3⟩:=hs;have p2':=List.pairwise_cons.1 (show List.Pairwise (λa b=>key a<=key b) (y::R) from p2);refine ⟨p1,List.pairwise_cons.2 ⟨λz hz=>?_,List.pairwise_cons.2 ⟨λr h=>by have:=hr r h; omega,p2'.2⟩⟩,λa ha z hz=>?_⟩
        · rcases List.mem_cons.1 hz with rfl | hz
          · omega
          · exact p2'.1 z hz
        · have hy:=p3 a ha y Ol;have hz':z=y\/z=x\/z∈R:=by simpa using hz
          rcases hz' with rfl | rfl | h
          · exact hy
          · omega
          · exact p3 a ha z (by simp [h])
theorem zwp (P B S:List Trip) (hl:(P++B++S).length<1000000000000):∃ M,zF (P++B++S) P.length ((P.length+B.length:Nat):Int) cmp=Ob (P++M++S)/\zfr key M/\zdb key B M:=by
  unfold zF;have key2:∀ (B2 B1:List Trip),zfr key B1->B1++B2≠[]->(P++B1++B2++S).length<1000000000000->B1.length+B2.length=B.length ->
      ∃ M,Lp (λs95:Int×List Trip=>
cond (decide (s95.1<((P.length+B.length:Nat):Int))) (Zb (iter (zyX P.length cmp) big (s95.1,s95.2)) λt142=>
Ob (.inl (w64 (s95.1+1),t142))) (Ob (.inr s95.2))) B2.length (((P.length+B1.length:Nat):Int),P++B1++B2++S) (P++M++S)/\zfr key M/\zdb key (B1++B2) M:=by
    intro B2;induction B2 with
    | nil=>
      intro B1 hs _ hlen he;refine ⟨B1,Lp.done ?_,hs,by rw [List.append_nil]; exact zdb.refl _⟩;have:B1.length=B.length:=by simpa using he
      rw [this];simp
    | cons x B2 ih=>
      intro B1 hs _ hlen he;have hl2:=hlen;simp only [List.length_append,List.length_cons] at hl2 he;obtain ⟨M1,h1,h2,h3⟩:=zvw hc P (B2++S) x B1.length B1 [] rfl (by simpa using hs) Ol (by simp only [List.length_append,List.length_cons,List.length_nil]; omega);have hM1:M1.length=B1.length+1:=by rw [h3.len]; simp
      obtain ⟨M,h4,h5,h6⟩:=ih M1 h2 (by intro e; rw [(List.append_eq_nil_iff.1 e).1] at hM1; simp at hM1) On J;refine ⟨M,Lp.step ?_ h4,h5, ?_⟩
      · have e1:P++B1++x::B2++S=P++B1++[x]++(B2++S):=by simp
        simp only [decide_eq_true (show ((P.length+B1.length:Nat):Int)<((P.length+B.length:Nat):Int) by omega),cond_true,e1,h1.big (show B1.length<big by simp only [big]; omega),Zs];rw [z7 J,show P.length+B1.length+1=P.length+M1.length by omega];simp
      · have e2:B1++x::B2=(B1++[x])++B2:=by simp
        rw [e2];exact (h3.append (zdb.refl B2)).trans h6
  cases B with
  | nil=>
    refine ⟨[], ?_,List.Pairwise.nil,zdb.refl _⟩;have hl2:=hl;simp only [List.length_append] at hl2;have hL:Lp (λs95:Int×List Trip=>
cond (decide (s95.1<((P.length+([]:List Trip).length:Nat):Int))) (Zb (iter (zyX P.length cmp) big (s95.1,s95.2)) λt142=>
Ob (.inl (w64 (s95.1+1),t142))) (Ob (.inr s95.2))) 0 (w64 ((P.length:Int)+1),P++[]++S) (P++[]++S):=Lp.done (by
      rw [zk J J];simp only [List.length_nil,Nat.add_zero,decide_eq_false (show ¬ (P.length:Int)+1<(P.length:Int) by omega),cond_false])
    exact congrArg (λo=>Zb o λt144=>Ob t144) (hL.big Of)
  | cons x B=>
    have hl2:=hl;simp only [List.length_append,List.length_cons] at hl2;obtain ⟨M,h1,h2,h3⟩:=key2 B [x] (List.pairwise_singleton _ _) Ol (by simp only [List.length_append,List.length_cons,List.length_nil]; omega) Oj;refine ⟨M, ?_,h2,h3⟩;have e1:P++[x]++B++S=P++x::B++S:=by simp
    have e2:w64 ((P.length:Int)+1)=((P.length+[x].length:Nat):Int):=z7 J;rw [e1,← e2] at h1;exact congrArg (λo=>Zb o λt144=>Ob t144) (h1.big Of)
end
end Go.Ai.Sx