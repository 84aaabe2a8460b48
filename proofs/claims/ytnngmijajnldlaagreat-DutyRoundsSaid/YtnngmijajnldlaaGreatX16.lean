/- Sorting: merging two neighboring blocks. -/
import Derived.Test.YtnngmijajnldlaaGreatX15
import Derived.Test.YtnngmijajnldlaaGreatX13
import Derived.KernelRfl
import Derived.Test.YtnngmijajnldlaaGreatX12
set_option linter.unusedSimpArgs false
set_option linter.unusedVariables false
set_option linter.unusedSectionVars false
open Option renaming some→Ob,none→Oe
open Bool renaming false→Oc,true→Od
open Option renaming bind->Zb,bind_some->Zs
namespace Go.Ai.Sx
def zBS (rec:List Trip->Int->Int->Int->((Trip×Trip)->Option Int)->Option (List Trip)) (p_0:List Trip) (p_1:Int) (p_2:Int) (p_3:Int) (p_4:((Trip×Trip)->Option Int)) (x_:Int) (t_:Int):Option (List Trip):=Zb (cond (decide (t_<p_2)) (Ob (decide (p_2<w64 (w64 (x_+p_2)-t_)))) (Ob Oc)) λc92=>
cond c92 (Zb (zZ p_0 t_ p_2 (w64 (w64 (x_+p_2)-t_)) p_4) λy95=>
Zb (cond (decide (p_1<t_)) (Ob (decide (t_<x_))) (Ob Oc)) λc98=>
cond c98 (Zb (rec y95 p_1 t_ x_ p_4) λy101=>
Zb (cond (decide (x_<w64 (w64 (x_+p_2)-t_))) (Ob (decide (w64 (w64 (x_+p_2)-t_)<p_3))) (Ob Oc)) λc104=>
cond c104 (Zb (rec y101 x_ (w64 (w64 (x_+p_2)-t_)) p_3 p_4) λy107=>
Ob y107) (Ob y101)) (Zb (cond (decide (x_<w64 (w64 (x_+p_2)-t_))) (Ob (decide (w64 (w64 (x_+p_2)-t_)<p_3))) (Ob Oc)) λc110=>
cond c110 (Zb (rec y95 x_ (w64 (w64 (x_+p_2)-t_)) p_3 p_4) λy113=>
Ob y113) (Ob y95))) (Zb (cond (decide (p_1<t_)) (Ob (decide (t_<x_))) (Ob Oc)) λc116=>
cond c116 (Zb (rec p_0 p_1 t_ x_ p_4) λy119=>
Zb (cond (decide (x_<w64 (w64 (x_+p_2)-t_))) (Ob (decide (w64 (w64 (x_+p_2)-t_)<p_3))) (Ob Oc)) λc122=>
cond c122 (Zb (rec y119 x_ (w64 (w64 (x_+p_2)-t_)) p_3 p_4) λy125=>
Ob y125) (Ob y119)) (Zb (cond (decide (x_<w64 (w64 (x_+p_2)-t_))) (Ob (decide (w64 (w64 (x_+p_2)-t_)<p_3))) (Ob Oc)) λc128=>
cond c128 (Zb (rec p_0 x_ (w64 (w64 (x_+p_2)-t_)) p_3 p_4) λy131=>
Ob y131) (Ob p_0)))
theorem zjX {a b:Nat} (h:a+b<2000000000000):zhT .u64 (IntKind.u64.wrap (w64 ((a:Int)+(b:Int)))) 1=Ob (((a+b)/2:Nat):Int)/\w64 (((a+b)/2:Nat):Int)=(((a+b)/2:Nat):Int):=by
 have e1:w64 ((a:Int)+b)=((a+b:Nat):Int):=by rw [zk J J]; omega
 have e2:IntKind.u64.wrap ((a+b:Nat):Int)=((a+b:Nat):Int):=by simp only [IntKind.wrap,IntKind.bits,IntKind.signed]; simp; omega
 rw [e1,e2];unfold zhT;rw [if_pos J];refine ⟨?_,zk J J⟩;congr 1;simp [IntKind.bits];rw [Int.fdiv_eq_ediv_of_nonneg _ J]
theorem zmX {F:(Int×Int)->Option ((Int×Int)⊕Int)} {q:Nat->Bool} {lo hi:Nat} (hlh:lo<=hi) (hh:hi<1000000000000)
    (hf:∀ i j:Nat,lo<=i->i<j->j<=hi->F ((i:Int),(j:Int))=Ob (.inl (if q ((i+j)/2) then ((((i+j)/2+1:Nat):Int),(j:Int)) else ((i:Int),(((i+j)/2:Nat):Int)))))
    (he:∀ i:Nat,F ((i:Int),(i:Int))=Ob (.inr (i:Int))):∃ r:Nat,iter F big ((lo:Int),(hi:Int))=Ob (r:Int)/\lo<=r/\r<=hi/\(r=lo\/q (r-1)=Od)/\(r=hi\/q r=Oc):=by
  have key:∀ (n i j:Nat),j-i<=n->lo<=i->i<=j->j<=hi->(i=lo\/q (i-1)=Od)->(j=hi\/q j=Oc)->∃ r:Nat,Lp F n ((i:Int),(j:Int)) (r:Int)/\lo<=r/\r<=hi/\(r=lo\/q (r-1)=Od)/\(r=hi\/q r=Oc):=by
    intro n;induction n with
    | zero=>
      intro i j h1 h2 h3 h4 h5 h6;have:i=j:=J
      subst this;exact ⟨i,Lp.done (he i),h2,h4,h5,h6⟩
    | succ n ih=>
      intro i j h1 h2 h3 h4 h5 h6;by_cases hij:i=j
      · subst hij;exact ⟨i,Lp.done (he i),h2,h4,h5,h6⟩
      · have hs:=hf i j h2 J h4;cases hq:q ((i+j)/2) with
        | true=>
          rw [hq,if_pos rfl] at hs;obtain ⟨r,h7,h8⟩:=ih ((i+j)/2+1) j J J J h4 (.inr (by simpa using hq)) h6;exact ⟨r,Lp.step hs h7,h8⟩
        | false=>
          rw [hq] at hs;simp only [Bool.false_eq_true,if_false] at hs;obtain ⟨r,h7,h8⟩:=ih i ((i+j)/2) J h2 J J h5 (.inr hq);exact ⟨r,Lp.step hs h7,h8⟩
  obtain ⟨r,h1,h2⟩:=key (hi-lo) lo hi (Nat.le_refl _) (Nat.le_refl _) hlh (Nat.le_refl _) (.inl rfl) (.inl rfl);exact ⟨r,h1.big Of,h2⟩
section
variable {cmp:(Trip×Trip)->Option Int} {key:Trip->Int}
def ztk (key:Trip->Int) (cmp:(Trip×Trip)->Option Int) (n:Nat) (rec:List Trip->Int->Int->Int->((Trip×Trip)->Option Int)->Option (List Trip)):Prop:=
 ∀ A B P S:List Trip,A≠[]->B≠[]->A.length+B.length<=n->zfr key A->zfr key B->(P++A++B++S).length<1000000000000->∃ M,rec (P++A++B++S) P.length ((P.length+A.length:Nat):Int) ((P.length+A.length+B.length:Nat):Int) cmp=Ob (P++M++S)/\zfr key M/\zdb key (A++B) M
theorem zgN {A B:List Trip}:zfr key (A++B)↔zfr key A/\zfr key B/\∀ a∈A,∀ b∈B,key a<=key b:=List.pairwise_append
theorem zyv {n:Nat} {rec:List Trip->Int->Int->Int->((Trip×Trip)->Option Int)->Option (List Trip)} (hr:ztk key cmp n rec) (P A1 V U B2 S:List Trip)
    (hn1:A1.length+V.length<=n) (hn2:U.length+B2.length<=n) (hl:(P++A1++V++U++B2++S).length<1000000000000) (s1:zfr key A1) (s2:zfr key V) (s3:zfr key U) (s4:zfr key B2) :
    ∃ M1 M2,zfr key M1/\zfr key M2/\zdb key (A1++V) M1/\zdb key (U++B2) M2 /\
      (Zb (cond (decide ((P.length:Int)<((P.length+A1.length:Nat):Int))) (Ob (decide (((P.length+A1.length:Nat):Int)<((P.length+A1.length+V.length:Nat):Int)))) (Ob Oc)) λc98=>
cond c98 (Zb (rec (P++A1++V++U++B2++S) P.length ((P.length+A1.length:Nat):Int) ((P.length+A1.length+V.length:Nat):Int) cmp) λy101=>
Zb (cond (decide (((P.length+A1.length+V.length:Nat):Int)<((P.length+A1.length+V.length+U.length:Nat):Int))) (Ob (decide (((P.length+A1.length+V.length+U.length:Nat):Int)<((P.length+A1.length+V.length+U.length+B2.length:Nat):Int)))) (Ob Oc)) λc104=>
cond c104 (Zb (rec y101 ((P.length+A1.length+V.length:Nat):Int) ((P.length+A1.length+V.length+U.length:Nat):Int) ((P.length+A1.length+V.length+U.length+B2.length:Nat):Int) cmp) λy107=>
Ob y107) (Ob y101)) (Zb (cond (decide (((P.length+A1.length+V.length:Nat):Int)<((P.length+A1.length+V.length+U.length:Nat):Int))) (Ob (decide (((P.length+A1.length+V.length+U.length:Nat):Int)<((P.length+A1.length+V.length+U.length+B2.length:Nat):Int)))) (Ob Oc)) λc110=>
cond c110 (Zb (rec (P++A1++V++U++B2++S) ((P.length+A1.length+V.length:Nat):Int) ((P.length+A1.length+V.length+U.length:Nat):Int) ((P.length+A1.length+V.length+U.length+B2.length:Nat):Int) cmp) λy113=>
Ob y113) (Ob (P++A1++V++U++B2++S))))=Ob (P++M1++M2++S):=by
  have hl2:=hl;simp only [List.length_append] at hl2
  -- the left one
  have left:∃ M1,zfr key M1/\zdb key (A1++V) M1/\(if 0<A1.length/\0<V.length then rec (P++A1++V++U++B2++S) P.length ((P.length+A1.length:Nat):Int) ((P.length+A1.length+V.length:Nat):Int) cmp=Ob (P++M1++U++B2++S) else M1=A1++V):=by
    by_cases h:0<A1.length/\0<V.length
    · obtain ⟨M,h1,h2,h3⟩:=hr A1 V P (U++B2++S) (List.length_pos_iff.1 h.1) (List.length_pos_iff.1 h.2) hn1 s1 s2 On;refine ⟨M,h2,h3, ?_⟩;rw [if_pos h];have e1:P++A1++V++U++B2++S=P++A1++V++(U++B2++S):=by simp
      rw [e1,h1]; simp
    · refine ⟨A1++V, ?_,zdb.refl _,by rw [if_neg h]⟩;by_cases ha:A1=[]
      · subst ha; simpa using s2
      · have hv:V=[]:=List.length_eq_zero_iff.1 (by have:=List.length_pos_iff.2 ha; omega);subst hv; simpa using s1
  obtain ⟨M1,m1,m2,m3⟩:=left;have hM1:M1.length=A1.length+V.length:=by rw [m2.len]; simp
  have right:∃ M2,zfr key M2/\zdb key (U++B2) M2/\(if 0<U.length/\0<B2.length then rec (P++M1++U++B2++S) ((P.length+A1.length+V.length:Nat):Int) ((P.length+A1.length+V.length+U.length:Nat):Int) ((P.length+A1.length+V.length+U.length+B2.length:Nat):Int) cmp=Ob (P++M1++M2++S) else M2=U++B2):=by
    by_cases h:0<U.length/\0<B2.length
    · obtain ⟨M,h1,h2,h3⟩:=hr U B2 (P++M1) S (List.length_pos_iff.1 h.1) (List.length_pos_iff.1 h.2) hn2 s3 s4 On;refine ⟨M,h2,h3, ?_⟩;rw [if_pos h];rw [List.length_append,hM1,show P.length+(A1.length+V.length)=P.length+A1.length+V.length by omega] at h1;exact h1
    · refine ⟨U++B2, ?_,zdb.refl _,by rw [if_neg h]⟩;by_cases ha:U=[]
      · subst ha; simpa using s4
      · have hv:B2=[]:=List.length_eq_zero_iff.1 (by have:=List.length_pos_iff.2 ha; omega);subst hv; simpa using s3
  obtain ⟨M2,m4,m5,m6⟩:=right;refine ⟨M1,M2,m1,m4,m2,m5, ?_⟩;have c1:(cond (decide ((P.length:Int)<((P.length+A1.length:Nat):Int))) (Ob (decide (((P.length+A1.length:Nat):Int)<((P.length+A1.length+V.length:Nat):Int)))) (Ob Oc):Option Bool)=Ob (decide (0<A1.length/\0<V.length)):=by
    by_cases h1:0<A1.length
    · rw [decide_eq_true J,cond_true];congr 1;exact decide_eq_decide.2 ⟨λh=>⟨h1,by omega⟩,λh=>by omega⟩
    · rw [decide_eq_false J,cond_false,decide_eq_false J]
  have c2:(cond (decide (((P.length+A1.length+V.length:Nat):Int)<((P.length+A1.length+V.length+U.length:Nat):Int))) (Ob (decide (((P.length+A1.length+V.length+U.length:Nat):Int)<((P.length+A1.length+V.length+U.length+B2.length:Nat):Int)))) (Ob Oc):Option Bool)=Ob (decide (0<U.length/\0<B2.length)):=by
    by_cases h1:0<U.length
    · rw [decide_eq_true J,cond_true];congr 1;exact decide_eq_decide.2 ⟨λh=>⟨h1,by omega⟩,λh=>by omega⟩
    · rw [decide_eq_false J,cond_false,decide_eq_false J]
  rw [c1,Zs];simp only [c2,Zs];by_cases h1:0<A1.length/\0<V.length
  · rw [if_pos h1] at m3;rw [decide_eq_true h1,cond_true,m3,Zs];by_cases h2:0<U.length/\0<B2.length
    · rw [if_pos h2] at m6;rw [decide_eq_true h2,cond_true,m6,Zs]
    · rw [if_neg h2] at m6;rw [decide_eq_false h2,cond_false,m6]; simp
  · rw [if_neg h1] at m3;rw [decide_eq_false h1,cond_false];have e1:P++A1++V++U++B2++S=P++M1++U++B2++S:=by rw [m3]; simp
    rw [e1];by_cases h2:0<U.length/\0<B2.length
    · rw [if_pos h2] at m6;rw [decide_eq_true h2,cond_true,m6,Zs]
    · rw [if_neg h2] at m6;rw [decide_eq_false h2,cond_false,m6]; simp
theorem zyw {n:Nat} {rec:List Trip->Int->Int->Int->((Trip×Trip)->Option Int)->Option (List Trip)} (hr:ztk key cmp n rec) (P A1 U V B2 S:List Trip)
 (hn1:A1.length+V.length<=n) (hn2:U.length+B2.length<=n) (hl:(P++A1++U++V++B2++S).length<1000000000000) (sA:zfr key (A1++U)) (sB:zfr key (V++B2))
 (h1:∀ u∈U,∀ v∈V,key v<key u) (h2:∀ a∈A1,∀ b∈B2,key a<=key b) :
 ∃ M,zBS rec (P++A1++U++V++B2++S) P.length ((P.length+A1.length+U.length:Nat):Int) ((P.length+A1.length+U.length+V.length+B2.length:Nat):Int) cmp ((P.length+A1.length+V.length:Nat):Int) ((P.length+A1.length:Nat):Int)=Ob (P++M++S)/\zfr key M/\zdb key (A1++U++(V++B2)) M:=by
 have hl2:=hl;simp only [List.length_append] at hl2;obtain ⟨a1,a2,a3⟩:=zgN.1 sA;obtain ⟨b1,b2,b3⟩:=zgN.1 sB;obtain ⟨M1,M2,m1,m2,m3,m4,m5⟩:=zyv hr P A1 V U B2 S hn1 hn2 On a1 b1 a2 b2;refine ⟨M1++M2, ?_,zgN.2 ⟨m1,m2,λx hx y hy=>?_⟩, ?_⟩
 . have eE:w64 (w64 (((P.length+A1.length+V.length:Nat):Int)+((P.length+A1.length+U.length:Nat):Int))-((P.length+A1.length:Nat):Int))=((P.length+A1.length+V.length+U.length:Nat):Int):=by
    rw [zk (n:=((P.length+A1.length+V.length:Nat):Int)+_) J J,zk J J]; omega
   have eB:P.length+A1.length+U.length+V.length+B2.length=P.length+A1.length+V.length+U.length+B2.length:=J
   unfold zBS;rw [eE,eB];have c0:(cond (decide (((P.length+A1.length:Nat):Int)<((P.length+A1.length+U.length:Nat):Int))) (Ob (decide (((P.length+A1.length+U.length:Nat):Int)<((P.length+A1.length+V.length+U.length:Nat):Int)))) (Ob Oc):Option Bool)=Ob (decide (0<U.length/\0<V.length)):=by
    by_cases h1:0<U.length
    . rw [decide_eq_true J,cond_true];congr 1;exact decide_eq_decide.2 ⟨λh=>⟨h1,by omega⟩,λh=>by omega⟩
    . rw [decide_eq_false J,cond_false,decide_eq_false J]
   rw [c0,Zs];by_cases hc:0<U.length/\0<V.length
   . have hrot:=zAi (cmp:=cmp) (P++A1) U V (B2++S) On (List.length_pos_iff.1 hc.1) (List.length_pos_iff.1 hc.2);have e1:P++A1++U++V++B2++S=P++A1++U++V++(B2++S):=by simp
     have e2:P++A1++V++U++(B2++S)=P++A1++V++U++B2++S:=by simp
     rw [List.length_append,← e1,e2,show P.length+A1.length+U.length+V.length=P.length+A1.length+V.length+U.length by omega] at hrot;rw [decide_eq_true hc,cond_true,hrot,Zs];refine m5.trans ?_;simp
   . have e1:P++A1++U++V++B2++S=P++A1++V++U++B2++S:=by
      by_cases hu:U=[]
      . subst hu; simp
      . have hv:V=[]:=List.length_eq_zero_iff.1 (by have:=List.length_pos_iff.2 hu; omega);subst hv; simp
     rw [decide_eq_false hc,cond_false,e1];refine m5.trans ?_;simp
 . have hx':=List.mem_append.1 (m3.mem.1 hx);have hy':=List.mem_append.1 (m4.mem.1 hy);rcases hx' with hx' | hx'<;>rcases hy' with hy' | hy'
   . exact a3 x hx' y hy'
   . exact h2 x hx' y hy'
   . have:=h1 y hy' x hx'; omega
   . exact b3 x hx' y hy'
 . have e1:A1++U++(V++B2)=A1++((U++V)++B2):=by simp
   have e2:zdb key (A1++((U++V)++B2)) (A1++((V++U)++B2)):=(zdb.refl A1).append ((zdb.swap h1).append (zdb.refl B2));have e3:A1++((V++U)++B2)=(A1++V)++(U++B2):=by simp
   rw [e1];rw [e3] at e2;exact e2.trans (m3.append m4)
end
def E0:Trip:=(0,Oc,0,0,())
theorem zvx {P A B S:List Trip} {i:Nat} (h:i<A.length):idx (P++A++B++S) ((P.length+i:Nat):Int)=Ob (A.getD i E0):=by
 rw [zhY,List.append_assoc,List.append_assoc,List.getElem?_append_right J,Nat.add_sub_cancel_left,List.getElem?_append_left h];simp [List.getD,h]
theorem zyx {P A B S:List Trip} {i:Nat} (h:i<B.length):idx (P++A++B++S) ((P.length+A.length+i:Nat):Int)=Ob (B.getD i E0):=by
 have e:P++A++B++S=(P++A)++B++[]++S:=by simp
 have hl:P.length+A.length=(P++A).length:=by simp
 rw [e,hl];have:=zvx (P:=P++A) (A:=B) (B:=[]) (S:=S) h;exact this
theorem zhd {key:Trip->Int} {A:List Trip} (hs:zfr key A) {i j:Nat} (h:i<=j) (hj:j<A.length):key (A.getD i E0)<=key (A.getD j E0):=by
 by_cases e:i=j
 . subst e; omega
 . have:=List.pairwise_iff_getElem.1 hs i j J hj J;simpa [List.getD,hj,show i<A.length by omega] using this
theorem zqd {A:List Trip} {i:Nat} {x:Trip} (h:x∈A.take i):∃ j,j<i/\j<A.length/\x=A.getD j E0:=by
 obtain ⟨j,hj,rfl⟩:=List.getElem_of_mem h;have hj2:=hj;rw [List.length_take] at hj2;refine ⟨j,by omega,by omega, ?_⟩;simp [List.getD,show j<A.length by omega]
theorem zqe {A:List Trip} {i:Nat} {x:Trip} (h:x∈A.drop i):∃ j,i<=j/\j<A.length/\x=A.getD j E0:=by
 obtain ⟨j,hj,rfl⟩:=List.getElem_of_mem h;have hj2:=hj;rw [List.length_drop] at hj2;refine ⟨i+j,by omega,by omega, ?_⟩;simp [List.getD,show i+j<A.length by omega]
section
variable {cmp:(Trip×Trip)->Option Int} {key:Trip->Int} (hc:∀ x y,∃ v,cmp (x,y)=Ob v/\(v<0↔key x<key y))
include hc
theorem zwq {P A B S:List Trip} {lo hi mid:Nat} (hl:(P++A++B++S).length<1000000000000) (hlo:P.length<=lo) (hlh:lo<=hi) (hhi:hi<=P.length+A.length)
    (hq1:∀ c,lo<=c->c<hi->P.length+A.length<=mid+(P.length+A.length)-1-c/\mid+(P.length+A.length)-1-c<P.length+A.length+B.length) (hmid:mid<=P.length+A.length+B.length) :
    ∃ r:Nat,iter (σ:=(Int×Int)) (τ:=Int) ((λs139=>
cond (decide (s139.1<s139.2)) (Zb (zhT .u64 (IntKind.u64.wrap (w64 (s139.1+s139.2))) 1) λx142=>
Zb (idx (P++A++B++S) (w64 (w64 (w64 ((mid:Int)+((P.length+A.length:Nat):Int))-1)-w64 x142))) λx143=>
Zb (idx (P++A++B++S) (w64 x142)) λx144=>
Zb (cmp (x143,x144)) λy145=>
cond (!(decide (y145<0))) (Ob (.inl (w64 (w64 x142+1),s139.2))) (Ob (.inl (s139.1,w64 x142)))) (Ob (.inr s139.1))):(Int×Int)->Option ((Int×Int)⊕Int)) big ((lo:Int),(hi:Int))=Ob (r:Int)/\lo<=r/\r<=hi /\
      (r=lo\/key (A.getD (r-1-P.length) E0)<=key (B.getD (mid+(P.length+A.length)-r-(P.length+A.length)) E0))/\(r=hi\/key (B.getD (mid+(P.length+A.length)-1-r-(P.length+A.length)) E0)<key (A.getD (r-P.length) E0)):=by
  have hl2:=hl;simp only [List.length_append] at hl2;obtain ⟨r,h1,h2,h3,h4,h5⟩:=zmX (F:=(λs139=>
cond (decide (s139.1<s139.2)) (Zb (zhT .u64 (IntKind.u64.wrap (w64 (s139.1+s139.2))) 1) λx142=>
Zb (idx (P++A++B++S) (w64 (w64 (w64 ((mid:Int)+((P.length+A.length:Nat):Int))-1)-w64 x142))) λx143=>
Zb (idx (P++A++B++S) (w64 x142)) λx144=>
Zb (cmp (x143,x144)) λy145=>
cond (!(decide (y145<0))) (Ob (.inl (w64 (w64 x142+1),s139.2))) (Ob (.inl (s139.1,w64 x142)))) (Ob (.inr s139.1)))) (q:=λc=>!decide (key (B.getD (mid+(P.length+A.length)-1-c-(P.length+A.length)) E0)<key (A.getD (c-P.length) E0))) (lo:=lo) (hi:=hi) hlh J (λi j hi1 hij hj=>by
      obtain ⟨e1,e2⟩:=zjX (a:=i) (b:=j) J;obtain ⟨g1,g2⟩:=hq1 ((i+j)/2) J J;simp only [];rw [decide_eq_true J,cond_true,e1,Zs,e2];have e3:w64 (w64 (w64 ((mid:Int)+((P.length+A.length:Nat):Int))-1)-(((i+j)/2:Nat):Int))=((P.length+A.length+(mid+(P.length+A.length)-1-(i+j)/2-(P.length+A.length)):Nat):Int):=by
        rw [zk (n:=(mid:Int)+_) J J,zk (n:=(mid:Int)+_-1) J J,zk J J]; omega
      rw [e3,zyx J,Zs];have e4:(((i+j)/2:Nat):Int)=((P.length+((i+j)/2-P.length):Nat):Int):=J
      rw [e4,zvx J,Zs,zk2 hc _ _ (λb=>cond (!b) _ _),← e4];rw [z7 J];cases decide (key (B.getD (mid+(P.length+A.length)-1-(i+j)/2-(P.length+A.length)) E0)<key (A.getD ((i+j)/2-P.length) E0))<;>rfl)
    (λi=>by simp only [decide_eq_false (show ¬ (i:Int)<i by omega),cond_false])
  refine ⟨r,h1,h2,h3, ?_, ?_⟩
  · rcases h4 with h | h
    · exact .inl h
    · by_cases e:r=lo
      · exact .inl e
      · right;simp only [Bool.not_eq_true',decide_eq_false_iff_not] at h;rw [show mid+(P.length+A.length)-1-(r-1)-(P.length+A.length)=mid+(P.length+A.length)-r-(P.length+A.length) by omega] at h;omega
  · rcases h5 with h | h
    · exact .inl h
    · right;simpa using h
end
section
variable {cmp:(Trip×Trip)->Option Int} {key:Trip->Int}
theorem ztl {n:Nat} {rec:List Trip->Int->Int->Int->((Trip×Trip)->Option Int)->Option (List Trip)} (hr:ztk key cmp n rec) {P A B S:List Trip} {r mid:Nat} (hA:zfr key A) (hB:zfr key B) (hl:(P++A++B++S).length<1000000000000)
 (r1:P.length<=r) (r2:r<=P.length+A.length) (r3:r<=mid) (r4:mid-r<=B.length) (m1:mid-P.length<=n) (m2:P.length+A.length+B.length-mid<=n)
 (q1:r=P.length\/mid-r=B.length\/key (A.getD (r-1-P.length) E0)<=key (B.getD (mid-r) E0)) (q2:r=P.length+A.length\/mid=r\/key (B.getD (mid-1-r) E0)<key (A.getD (r-P.length) E0)) :
 ∃ M,zBS rec (P++A++B++S) P.length ((P.length+A.length:Nat):Int) ((P.length+A.length+B.length:Nat):Int) cmp (mid:Int) (r:Int)=Ob (P++M++S)/\zfr key M/\zdb key (A++B) M:=by
 have hl2:=hl;simp only [List.length_append] at hl2;have eA:A.take (r-P.length)++A.drop (r-P.length)=A:=List.take_append_drop _ _;have eB:B.take (mid-r)++B.drop (mid-r)=B:=List.take_append_drop _ _;have lA1:(A.take (r-P.length)).length=r-P.length:=by rw [List.length_take]; omega
 have lU:(A.drop (r-P.length)).length=A.length-(r-P.length):=List.length_drop;have lV:(B.take (mid-r)).length=mid-r:=by rw [List.length_take]; omega
 have lB2:(B.drop (mid-r)).length=B.length-(mid-r):=List.length_drop;obtain ⟨M,h1,h2,h3⟩:=zyw hr P (A.take (r-P.length)) (A.drop (r-P.length)) (B.take (mid-r)) (B.drop (mid-r)) S J J On (by rw [eA]; exact hA) (by rw [eB]; exact hB)
  (λu hu v hv=>by
   obtain ⟨j,j1,j2,rfl⟩:=zqe hu;obtain ⟨i,i1,i2,rfl⟩:=zqd hv;have a1:=zhd hA (i:=r-P.length) (j:=j) j1 j2;have a2:=zhd hB (i:=i) (j:=mid-1-r) J J;rcases q2 with h | h | h<;>omega)
  (λx hx y hy=>by
   obtain ⟨j,j1,j2,rfl⟩:=zqd hx;obtain ⟨i,i1,i2,rfl⟩:=zqe hy;have a1:=zhd hA (i:=j) (j:=r-1-P.length) J J;have a2:=zhd hB (i:=mid-r) (j:=i) i1 i2;rcases q1 with h | h | h<;>omega)
 have eL:P++A.take (r-P.length)++A.drop (r-P.length)++B.take (mid-r)++B.drop (mid-r)++S=P++A++B++S:=by
  rw [List.append_assoc P,eA,List.append_assoc (P++A),eB]
 rw [eL,lA1,lU,lV,lB2,show P.length+(r-P.length)=r by omega,show r+(A.length-(r-P.length))=P.length+A.length by omega,show P.length+A.length+(mid-r)+(B.length-(mid-r))=P.length+A.length+B.length by omega,show r+(mid-r)=mid by omega] at h1;rw [eA,eB] at h3;exact ⟨M,h1,h2,h3⟩
end
section
variable {cmp:(Trip×Trip)->Option Int} {key:Trip->Int} (hc:∀ x y,∃ v,cmp (x,y)=Ob v/\(v<0↔key x<key y))
include hc
theorem zyy {n:Nat} {rec:List Trip->Int->Int->Int->((Trip×Trip)->Option Int)->Option (List Trip)} (hr:ztk key cmp n rec) {P A B S:List Trip} (hA:zfr key A) (hB:zfr key B) (hl:(P++A++B++S).length<1000000000000) (la:2<=A.length) (lb:2<=B.length) (hn:A.length+B.length<=n+1) :
 ∃ M,zn rec (P++A++B++S) P.length ((P.length+A.length:Nat):Int) ((P.length+A.length+B.length:Nat):Int) cmp=Ob (P++M++S)/\zfr key M/\zdb key (A++B) M:=by
 have hl2:=hl;simp only [List.length_append] at hl2;have w1:(w64 (((P.length+A.length:Nat):Int)-(P.length:Int))==1)=Oc:=by rw [zk J J]; simp; omega
 have w2:(w64 (((P.length+A.length+B.length:Nat):Int)-((P.length+A.length:Nat):Int))==1)=Oc:=by rw [zk J J]; simp; omega
 obtain ⟨e1,e2⟩:=zjX (a:=P.length) (b:=P.length+A.length+B.length) J;obtain ⟨mid,hmid⟩:∃ mid,(P.length+(P.length+A.length+B.length))/2=mid:=⟨_,rfl⟩;rw [hmid] at e1 e2;unfold zn;rw [w1,w2,cond_false,cond_false,e1,Zs,e2];by_cases hm:P.length+A.length>mid
 . rw [decide_eq_true (show ((P.length+A.length:Nat):Int)>(mid:Int) by omega),cond_true];have elo:w64 (w64 ((mid:Int)+((P.length+A.length:Nat):Int))-((P.length+A.length+B.length:Nat):Int))=((mid-B.length:Nat):Int):=by
    rw [zk (n:=(mid:Int)+_) J J,zk J J]; omega
   rw [elo];obtain ⟨r,h1,h2,h3,h4,h5⟩:=zwq hc (P:=P) (A:=A) (B:=B) (S:=S) (lo:=mid-B.length) (hi:=mid) (mid:=mid) hl J J J (λc _ _=>by omega) J;rw [h1,Zs];refine ztl hr (r:=r) (mid:=mid) hA hB hl J J h3 J J J ?_ ?_
   . rcases h4 with h | h
     . right; left; omega
     . right; right;rw [show mid+(P.length+A.length)-r-(P.length+A.length)=mid-r by omega] at h;exact h
   . rcases h5 with h | h
     . right; left; exact h.symm
     . right; right;rw [show mid+(P.length+A.length)-1-r-(P.length+A.length)=mid-1-r by omega] at h;exact h
 . rw [decide_eq_false (show ¬ ((P.length+A.length:Nat):Int)>(mid:Int) by omega),cond_false];obtain ⟨r,h1,h2,h3,h4,h5⟩:=zwq hc (P:=P) (A:=A) (B:=B) (S:=S) (lo:=P.length) (hi:=P.length+A.length) (mid:=mid) hl J J J (λc _ _=>by omega) J;rw [h1,Zs];refine ztl hr (r:=r) (mid:=mid) hA hB hl J J J J J J ?_ ?_
   . rcases h4 with h | h
     . left; exact h
     . right; right;rw [show mid+(P.length+A.length)-r-(P.length+A.length)=mid-r by omega] at h;exact h
   . rcases h5 with h | h
     . left; exact h
     . right; right;rw [show mid+(P.length+A.length)-1-r-(P.length+A.length)=mid-1-r by omega] at h;exact h
end
theorem zvy (x:Trip) (T:List Trip) (e:Int):∀ (B1 P:List Trip),e=((P.length+B1.length:Nat):Int)->(P++x::B1++T).length<1000000000000 ->
    Lp ((λs28=>
cond (decide (s28.1<e)) (Zb (idx s28.2 (w64 (s28.1+1))) λx31=>
Zb (idx s28.2 s28.1) λx32=>
Zb (idx s28.2 s28.1) λx33=>
Zb (idx ((s28.2).set (Int.toNat s28.1) x31) (w64 (s28.1+1))) λx34=>
Ob (.inl (w64 (s28.1+1),((s28.2).set (Int.toNat s28.1) x31).set (Int.toNat (w64 (s28.1+1))) x32))) (Ob (.inr s28.2))):(Int×List Trip)->Option ((Int×List Trip)⊕List Trip)) B1.length ((P.length:Int),P++x::B1++T) (P++B1++x::T):=by
  intro B1;induction B1 with
  | nil=>
    intro P he hl;refine Lp.done ?_;subst he;simp
  | cons y B1 ih=>
    intro P he hl;have hl2:=hl;simp only [List.length_append,List.length_cons] at hl2 he;have hr:=ih (P++[y]) (by rw [he]; simp; omega) (by simp only [List.length_append,List.length_cons,List.length_nil]; omega);have e9:P++[y]++B1++x::T=P++y::B1++x::T:=by simp
    rw [e9] at hr;refine Lp.step ?_ hr;have i0:∀ z,idx (P++z::(y::B1)++T) (P.length:Int)=Ob z:=λz=>by
      rw [show P++z::(y::B1)++T=P++z::(y::B1++T) by simp]; exact zgM _ _ _
    have i1:∀ z,idx (P++z::(y::B1)++T) ((P.length+1:Nat):Int)=Ob y:=λz=>by
      rw [show P++z::(y::B1)++T=(P++[z])++y::(B1++T) by simp,show P.length+1=(P++[z]).length by simp]; exact zgM _ _ _
    have s1:(P++x::(y::B1)++T).set P.length y=P++y::(y::B1)++T:=by
      rw [show P++x::(y::B1)++T=P++x::(y::B1++T) by simp,zhc]; simp
    have s2:(P++y::(y::B1)++T).set (P.length+1) x=P++[y]++x::B1++T:=by
      rw [show P++y::(y::B1)++T=(P++[y])++y::(B1++T) by simp,show P.length+1=(P++[y]).length by simp,zhc]; simp
    simp only [decide_eq_true (show (P.length:Int)<e by omega),cond_true,z7 (show P.length<9223372036854775807 by omega),i1,i0,Zs,Int.toNat_natCast,s1,s2];simp
theorem zyz (y:Trip) (T P:List Trip):∀ (n:Nat) (A2:List Trip) (T:List Trip),A2.length=n->(P++A2++y::T).length<1000000000000 ->
    Lp ((λs64=>
cond (decide (s64.1>(P.length:Int))) (Zb (idx s64.2 (w64 (s64.1-1))) λx67=>
Zb (idx s64.2 s64.1) λx68=>
Zb (idx s64.2 s64.1) λx69=>
Zb (idx ((s64.2).set (Int.toNat s64.1) x67) (w64 (s64.1-1))) λx70=>
Ob (.inl (w64 (s64.1-1),((s64.2).set (Int.toNat s64.1) x67).set (Int.toNat (w64 (s64.1-1))) x68))) (Ob (.inr s64.2))):(Int×List Trip)->Option ((Int×List Trip)⊕List Trip)) n (((P.length+A2.length:Nat):Int),P++A2++y::T) (P++y::A2++T):=by
  intro n;induction n with
  | zero=>
    intro A2 T hn hl;have:A2=[]:=List.length_eq_zero_iff.1 hn;subst this;refine Lp.done ?_;simp
  | succ n ih=>
    intro A2 T hn hl;obtain ⟨L0,z,rfl⟩:∃ L0 z,A2=L0++[z]:=by
      cases h:A2.reverse with
      | nil=>rw [List.reverse_eq_nil_iff] at h; subst h; simp at hn
      | cons z l=>exact ⟨l.reverse,z,by rw [← List.reverse_reverse A2,h]; simp⟩
    have hL0:L0.length=n:=by simpa using hn
    have hl2:=hl;simp only [List.length_append,List.length_cons,List.length_nil] at hl2;have hr:=ih L0 (z::T) hL0 (by simp only [List.length_append,List.length_cons]; omega);have e9:P++y::L0++z::T=P++y::(L0++[z])++T:=by simp
    rw [e9] at hr;refine Lp.step ?_ hr;have em:w64 (((P.length+(L0++[z]).length:Nat):Int)-1)=((P.length+L0.length:Nat):Int):=by
      simp only [List.length_append,List.length_cons,List.length_nil];rw [zk J J]; omega
    have i1:idx (P++(L0++[z])++y::T) ((P.length+(L0++[z]).length:Nat):Int)=Ob y:=by
      rw [show P.length+(L0++[z]).length=(P++(L0++[z])).length by simp]; exact zgM _ _ _
    have i2:∀ u,idx (P++(L0++[z])++u::T) ((P.length+L0.length:Nat):Int)=Ob z:=λu=>by
      rw [show P++(L0++[z])++u::T=(P++L0)++z::(u::T) by simp,show P.length+L0.length=(P++L0).length by simp]; exact zgM _ _ _
    have s1:(P++(L0++[z])++y::T).set (P.length+(L0++[z]).length) z=P++(L0++[z])++z::T:=by
      rw [show P.length+(L0++[z]).length=(P++(L0++[z])).length by simp,zhc]
    have s2:(P++(L0++[z])++z::T).set (P.length+L0.length) y=P++L0++y::(z::T):=by
      rw [show P++(L0++[z])++z::T=(P++L0)++z::(z::T) by simp,show P.length+L0.length=(P++L0).length by simp,zhc]
    simp only [decide_eq_true (show ((P.length+(L0++[z]).length:Nat):Int)>(P.length:Int) by simp only [List.length_append,List.length_cons,List.length_nil]; omega),cond_true,em,i1,i2,Zs,Int.toNat_natCast,s1,s2]
section
variable {cmp:(Trip×Trip)->Option Int} {key:Trip->Int} (hc:∀ x y,∃ v,cmp (x,y)=Ob v/\(v<0↔key x<key y))
include hc
theorem zyA {rec:List Trip->Int->Int->Int->((Trip×Trip)->Option Int)->Option (List Trip)} {P B S:List Trip} {x:Trip} (hB:zfr key B) (hl:(P++[x]++B++S).length<1000000000000) :
    ∃ M,zn rec (P++[x]++B++S) P.length ((P.length+[x].length:Nat):Int) ((P.length+[x].length+B.length:Nat):Int) cmp=Ob (P++M++S)/\zfr key M/\zdb key ([x]++B) M:=by
  have hl2:=hl;simp only [List.length_append,List.length_cons,List.length_nil] at hl2;have w1:(w64 (((P.length+[x].length:Nat):Int)-(P.length:Int))==1)=Od:=by
    rw [List.length_singleton,zk J J]; simp; omega
  unfold zn;rw [w1,cond_true];have ix:idx (P++[x]++B++S) (P.length:Int)=Ob x:=by
    have:=zvx (P:=P) (A:=[x]) (B:=B) (S:=S) (i:=0) Ol;simpa using this
  obtain ⟨r,h1,h2,h3,h4,h5⟩:=zmX (F:=(λs8=>
cond (decide (s8.1<s8.2)) (Zb (zhT .u64 (IntKind.u64.wrap (w64 (s8.1+s8.2))) 1) λx11=>
Zb (idx (P++[x]++B++S) (w64 x11)) λx12=>
Zb (idx (P++[x]++B++S) (P.length:Int)) λx13=>
Zb (cmp (x12,x13)) λy14=>
cond (decide (y14<0)) (Ob (.inl (w64 (w64 x11+1),s8.2))) (Ob (.inl (s8.1,w64 x11)))) (Ob (.inr s8.1)))) (q:=λc=>decide (key (B.getD (c-(P.length+1)) E0)<key x)) (lo:=P.length+[x].length) (hi:=P.length+[x].length+B.length) J (by rw [List.length_singleton]; omega) (λi j hi1 hij hj=>by
      rw [List.length_singleton] at hi1 hj;obtain ⟨e1,e2⟩:=zjX (a:=i) (b:=j) J;simp only [];rw [decide_eq_true J,cond_true,e1,Zs,e2];have e4:(((i+j)/2:Nat):Int)=((P.length+[x].length+((i+j)/2-(P.length+1)):Nat):Int):=by rw [List.length_singleton]; omega
      rw [e4,zyx J,Zs,ix,Zs,zk2 hc _ _ (λb=>cond b _ _),← e4];rw [z7 J];cases decide (key (B.getD ((i+j)/2-(P.length+1)) E0)<key x)<;>rfl)
    (λi=>by simp only [decide_eq_false (show ¬ (i:Int)<i by omega),cond_false])
  rw [h1,Zs];rw [List.length_singleton] at h2 h3 h4 h5;have eB:B.take (r-(P.length+1))++B.drop (r-(P.length+1))=B:=List.take_append_drop _ _;have lB:(B.take (r-(P.length+1))).length=r-(P.length+1):=by rw [List.length_take]; omega
  have hlt:∀ b∈B.take (r-(P.length+1)),key b<key x:=λb hb=>by
    obtain ⟨j,j1,j2,rfl⟩:=zqd hb;rcases h4 with h | h
    · omega
    · have a1:=zhd hB (i:=j) (j:=r-1-(P.length+1)) J J;have:=of_decide_eq_true h;omega
  have hge:∀ b∈B.drop (r-(P.length+1)),key x<=key b:=λb hb=>by
    obtain ⟨j,j1,j2,rfl⟩:=zqe hb;rcases h5 with h | h
    · omega
    · have a1:=zhd hB (i:=r-(P.length+1)) (j:=j) j1 j2;have:=of_decide_eq_false h;omega
  have hmv:=zvy x (B.drop (r-(P.length+1))++S) (w64 ((r:Int)-1)) (B.take (r-(P.length+1))) P (by rw [lB,zk J J]; omega) (by
    have e:P++x::B.take (r-(P.length+1))++(B.drop (r-(P.length+1))++S)=P++[x]++(B.take (r-(P.length+1))++B.drop (r-(P.length+1)))++S:=by simp; rw [← List.append_assoc,eB]
    rw [e,eB]; exact hl)
  have eD:P++x::B.take (r-(P.length+1))++(B.drop (r-(P.length+1))++S)=P++[x]++B++S:=by
    have e:P++x::B.take (r-(P.length+1))++(B.drop (r-(P.length+1))++S)=P++[x]++(B.take (r-(P.length+1))++B.drop (r-(P.length+1)))++S:=by simp; rw [← List.append_assoc,eB]
    rw [e,eB]
  rw [eD] at hmv;have hB1:=hmv.big (by rw [lB]; simp only [big]; omega);have hsB:=hB;rw [← eB] at hsB;obtain ⟨b1,b2,b3⟩:=zgN.1 hsB;refine ⟨B.take (r-(P.length+1))++x::B.drop (r-(P.length+1)), ?_, ?_, ?_⟩
  · refine (congrArg (λo=>Zb o λt35=>Ob t35) hB1).trans ?_;rw [Zs]; simp
  · refine zgN.2 ⟨b1,List.pairwise_cons.2 ⟨λb hb=>hge b hb,b2⟩,λa ha b hb=>?_⟩;rcases List.mem_cons.1 hb with rfl | hb
    · have:=hlt a ha; omega
    · exact b3 a ha b hb
  · have e1:[x]++B=([x]++B.take (r-(P.length+1)))++B.drop (r-(P.length+1)):=by rw [List.append_assoc,eB]
    have e2:B.take (r-(P.length+1))++x::B.drop (r-(P.length+1))=(B.take (r-(P.length+1))++[x])++B.drop (r-(P.length+1)):=by simp
    rw [e1,e2];refine (zdb.swap λu hu v hv=>?_).append (zdb.refl _);rw [List.mem_singleton] at hu;subst hu;exact hlt v hv
theorem zvz {rec:List Trip->Int->Int->Int->((Trip×Trip)->Option Int)->Option (List Trip)} {P A S:List Trip} {y:Trip} (hA:zfr key A) (la:A.length≠1) (hl:(P++A++[y]++S).length<1000000000000) :
    ∃ M,zn rec (P++A++[y]++S) P.length ((P.length+A.length:Nat):Int) ((P.length+A.length+[y].length:Nat):Int) cmp=Ob (P++M++S)/\zfr key M/\zdb key (A++[y]) M:=by
  have hl2:=hl;simp only [List.length_append,List.length_cons,List.length_nil] at hl2;have w1:(w64 (((P.length+A.length:Nat):Int)-(P.length:Int))==1)=Oc:=by
    rw [zk J J]; simp; omega
  have w2:(w64 (((P.length+A.length+[y].length:Nat):Int)-((P.length+A.length:Nat):Int))==1)=Od:=by
    rw [List.length_singleton,zk J J]; simp; omega
  unfold zn;rw [w1,w2,cond_false,cond_true];have iy:idx (P++A++[y]++S) ((P.length+A.length:Nat):Int)=Ob y:=by
    have:=zyx (P:=P) (A:=A) (B:=[y]) (S:=S) (i:=0) Ol;simpa using this
  obtain ⟨r,h1,h2,h3,h4,h5⟩:=zmX (F:=(λs44=>
cond (decide (s44.1<s44.2)) (Zb (zhT .u64 (IntKind.u64.wrap (w64 (s44.1+s44.2))) 1) λx47=>
Zb (idx (P++A++[y]++S) ((P.length+A.length:Nat):Int)) λx48=>
Zb (idx (P++A++[y]++S) (w64 x47)) λx49=>
Zb (cmp (x48,x49)) λy50=>
cond (!(decide (y50<0))) (Ob (.inl (w64 (w64 x47+1),s44.2))) (Ob (.inl (s44.1,w64 x47)))) (Ob (.inr s44.1)))) (q:=λc=>!decide (key y<key (A.getD (c-P.length) E0))) (lo:=P.length) (hi:=P.length+A.length) J J (λi j hi1 hij hj=>by
      obtain ⟨e1,e2⟩:=zjX (a:=i) (b:=j) J;simp only [];rw [decide_eq_true J,cond_true,e1,Zs,e2,iy,Zs];have e4:(((i+j)/2:Nat):Int)=((P.length+((i+j)/2-P.length):Nat):Int):=J
      rw [e4,zvx J,Zs,zk2 hc _ _ (λb=>cond (!b) _ _),← e4];rw [z7 J];cases decide (key y<key (A.getD ((i+j)/2-P.length) E0))<;>rfl)
    (λi=>by simp only [decide_eq_false (show ¬ (i:Int)<i by omega),cond_false])
  rw [h1,Zs];have eA:A.take (r-P.length)++A.drop (r-P.length)=A:=List.take_append_drop _ _;have lA:(A.take (r-P.length)).length=r-P.length:=by rw [List.length_take]; omega
  have lA2:(A.drop (r-P.length)).length=A.length-(r-P.length):=List.length_drop;have hle:∀ a∈A.take (r-P.length),key a<=key y:=λa ha=>by
    obtain ⟨j,j1,j2,rfl⟩:=zqd ha;rcases h4 with h | h
    · omega
    · have a1:=zhd hA (i:=j) (j:=r-1-P.length) J J;simp only [Bool.not_eq_true',decide_eq_false_iff_not] at h;omega
  have hgt:∀ a∈A.drop (r-P.length),key y<key a:=λa ha=>by
    obtain ⟨j,j1,j2,rfl⟩:=zqe ha;rcases h5 with h | h
    · omega
    · have a1:=zhd hA (i:=r-P.length) (j:=j) j1 j2;simp only [Bool.not_eq_false',decide_eq_true_eq] at h;omega
  have eD:(P++A.take (r-P.length))++A.drop (r-P.length)++y::S=P++A++[y]++S:=by
    rw [List.append_assoc P,eA]; simp
  have hmv:=zyz y S (P++A.take (r-P.length)) _ (A.drop (r-P.length)) S rfl (by rw [eD]; exact hl);rw [eD] at hmv;have eP:(P++A.take (r-P.length)).length=r:=by rw [List.length_append,lA]; omega
  rw [eP,lA2,show r+(A.length-(r-P.length))=P.length+A.length by omega] at hmv;have hB1:=hmv.big Of;have hsA:=hA;rw [← eA] at hsA;obtain ⟨b1,b2,b3⟩:=zgN.1 hsA;refine ⟨A.take (r-P.length)++y::A.drop (r-P.length), ?_, ?_, ?_⟩
  · refine (congrArg (λo=>Zb o λt71=>Ob t71) hB1).trans ?_;rw [Zs]; simp
  · refine zgN.2 ⟨b1,List.pairwise_cons.2 ⟨λb hb=>by have:=hgt b hb; omega,b2⟩,λa ha b hb=>?_⟩;rcases List.mem_cons.1 hb with rfl | hb
    · exact hle a ha
    · exact b3 a ha b hb
  · have e1:A++[y]=A.take (r-P.length)++(A.drop (r-P.length)++[y]):=by rw [← List.append_assoc,eA]
    have e2:A.take (r-P.length)++y::A.drop (r-P.length)=A.take (r-P.length)++([y]++A.drop (r-P.length)):=by simp
    rw [e1,e2];refine (zdb.refl _).append (zdb.swap λu hu v hv=>?_);rw [List.mem_singleton] at hv;subst hv;exact hgt u hu
theorem ztm:∀ (k n:Nat),n<=k->ztk key cmp n (zr k)
 | 0,n,hn=>λA B P S hA hB h _ _ _=>by
  have:=List.length_pos_iff.2 hA;omega
 | k+1,n,hn=>λA B P S hA hB h sA sB hl=>by
  have la:=List.length_pos_iff.2 hA;have lb:=List.length_pos_iff.2 hB;show ∃ M,zn (zr k) (P++A++B++S) P.length ((P.length+A.length:Nat):Int) ((P.length+A.length+B.length:Nat):Int) cmp=Ob (P++M++S)/\_;by_cases h1:A.length=1
  . obtain ⟨x,rfl⟩:=List.length_eq_one_iff.1 h1;exact zyA hc sB hl
  . by_cases h2:B.length=1
    . obtain ⟨y,rfl⟩:=List.length_eq_one_iff.1 h2;exact zvz hc sA h1 hl
    . exact zyy hc (ztm k (n-1) J) sA sB hl J J J
end
def zyY (n_:Int) (cmp:(Trip×Trip)->Option Int):(Int×Int×List Trip)->Option ((Int×Int×List Trip)⊕(Int×List Trip)):=(λs7=>
cond (decide (s7.2.1<=n_)) (Zb (zF s7.2.2 s7.1 s7.2.1 cmp) λy10=>
Ob (.inl (s7.2.1,w64 (s7.2.1+20),y10))) (Ob (.inr (s7.1,s7.2.2))))
def zAj (n_:Int) (cmp:(Trip×Trip)->Option Int) (w_:Int):(Int×Int×List Trip)->Option ((Int×Int×List Trip)⊕(Int×List Trip)):=(λs59=>
cond (decide (s59.2.1<=n_)) (Zb (zr big s59.2.2 s59.1 (w64 (s59.1+w_)) s59.2.1 cmp) λy62=>
Ob (.inl (s59.2.1,w64 (s59.2.1+w64 (2*w_)),y62))) (Ob (.inr (s59.1,s59.2.2))))
def zyZ (n_:Int) (cmp:(Trip×Trip)->Option Int):(Int×List Trip)->Option ((Int×List Trip)⊕List Trip):=(λs50=>
cond (decide (s50.1<n_)) (Zb (iter (σ:=(Int×Int×List Trip)) (τ:=(Int×List Trip)) (λs59=>
cond (decide (s59.2.1<=n_)) (Zb (zr big s59.2.2 s59.1 (w64 (s59.1+s50.1)) s59.2.1 cmp) λy62=>
Ob (.inl (s59.2.1,w64 (s59.2.1+w64 (2*s50.1)),y62))) (Ob (.inr (s59.1,s59.2.2)))) big (0,w64 (2*s50.1),s50.2)) λt64=>
cond (decide (w64 (t64.1+s50.1)<n_)) (Zb (zr big t64.2 t64.1 (w64 (t64.1+s50.1)) n_ cmp) λy67=>
Ob (.inl (w64 (s50.1*2),y67))) (Ob (.inl (w64 (s50.1*2),t64.2)))) (Ob (.inr s50.2)))
def zlj (key:Trip->Int) (s:Nat) (Bs:List (List Trip)):Prop:=∀ b∈Bs,b.length=s/\zfr key b
theorem zlj.len {key:Trip->Int} {s:Nat}:∀ {Bs:List (List Trip)},zlj key s Bs->Bs.flatten.length=s*Bs.length
 | [],_=>by simp
 | b::Bs,h=>by
  have h1:=(h b Ol).1;have h2:=zlj.len (Bs:=Bs) λc hc=>h c (by simp [hc]);rw [List.flatten_cons,List.length_append,h1,h2,List.length_cons,Nat.mul_add]; omega
theorem zlj.snoc {key:Trip->Int} {s:Nat} {Bs:List (List Trip)} {M:List Trip} (h:zlj key s Bs) (h1:M.length=s) (h2:zfr key M):zlj key s (Bs++[M]):=λb hb=>by
 rcases List.mem_append.1 hb with hb | hb
 . exact h b hb
 . rw [List.mem_singleton] at hb; subst hb; exact ⟨h1,h2⟩
section
variable {cmp:(Trip×Trip)->Option Int} {key:Trip->Int} (hc:∀ x y,∃ v,cmp (x,y)=Ob v/\(v<0↔key x<key y))
include hc
theorem ztn (N:Nat) (hN:N<100000000000):∀ (m:Nat) (Bs:List (List Trip)) (R:List Trip),R.length<=m->zlj key 20 Bs->(Bs.flatten++R).length=N ->
    ∃ (Cs:List (List Trip)) (Q:List Trip),Lp (zyY N cmp) m ((Bs.flatten.length:Int),((Bs.flatten.length+20:Nat):Int),Bs.flatten++R) ((Cs.flatten.length:Int),Cs.flatten++Q)/\zlj key 20 Cs/\Q.length<20/\zdb key (Bs.flatten++R) (Cs.flatten++Q):=by
  have stop:∀ (m:Nat) (Bs:List (List Trip)) (R:List Trip),R.length<20->zlj key 20 Bs->(Bs.flatten++R).length=N->∃ (Cs:List (List Trip)) (Q:List Trip),Lp (zyY N cmp) m ((Bs.flatten.length:Int),((Bs.flatten.length+20:Nat):Int),Bs.flatten++R) ((Cs.flatten.length:Int),Cs.flatten++Q)/\zlj key 20 Cs/\Q.length<20/\zdb key (Bs.flatten++R) (Cs.flatten++Q):=by
    intro m Bs R hR hB hn;rw [List.length_append] at hn;refine ⟨Bs,R,Lp.done ?_,hB,hR,zdb.refl _⟩;unfold zyY;simp only [decide_eq_false (show ¬ ((Bs.flatten.length+20:Nat):Int)<=(N:Int) by omega),cond_false]
  intro m;induction m with
  | zero=>intro Bs R h hB hn; exact stop 0 Bs R J hB hn
  | succ m ih=>
    intro Bs R h hB hn;by_cases hR:R.length<20
    · exact stop _ Bs R hR hB hn
    · have hn2:=hn;rw [List.length_append] at hn2;have eR:R.take 20++R.drop 20=R:=List.take_append_drop _ _;have l1:(R.take 20).length=20:=by rw [List.length_take]; omega
      have l2:(R.drop 20).length=R.length-20:=List.length_drop;have eD:Bs.flatten++R.take 20++R.drop 20=Bs.flatten++R:=by rw [List.append_assoc,eR]
      obtain ⟨M,h1,h2,h3⟩:=zwp hc Bs.flatten (R.take 20) (R.drop 20) (by rw [eD]; omega);have lM:M.length=20:=by rw [h3.len,l1]
      have eF:(Bs++[M]).flatten=Bs.flatten++M:=by simp
      have lF:(Bs++[M]).flatten.length=Bs.flatten.length+20:=by rw [eF,List.length_append,lM]
      obtain ⟨Cs,Q,h4,h5,h6,h7⟩:=ih (Bs++[M]) (R.drop 20) J (hB.snoc lM h2) (by rw [List.length_append,lF,l2]; omega);rw [eD,l1] at h1;refine ⟨Cs,Q,Lp.step ?_ h4,h5,h6, ?_⟩
      · unfold zyY;simp only [decide_eq_true (show ((Bs.flatten.length+20:Nat):Int)<=(N:Int) by omega),cond_true,h1,Zs];rw [lF,eF,zk J J];rfl
      · refine zdb.trans ?_ h7;rw [← eD,eF];exact ((zdb.refl _).append h3).append (zdb.refl _)
theorem zto (N s:Nat) (hN:N<100000000000) (hs:0<s/\s<N):∀ (m:Nat) (Cs Bs:List (List Trip)) (R:List Trip),Bs.length<=m->zlj key (2*s) Cs->zlj key s Bs->R.length<s->(Cs.flatten++Bs.flatten++R).length=N ->
    ∃ (Es As:List (List Trip)),Lp (zAj N cmp s) m ((Cs.flatten.length:Int),((Cs.flatten.length+2*s:Nat):Int),Cs.flatten++Bs.flatten++R) ((Es.flatten.length:Int),Es.flatten++As.flatten++R)/\zlj key (2*s) Es/\zlj key s As/\As.length<=1/\zdb key (Cs.flatten++Bs.flatten++R) (Es.flatten++As.flatten++R):=by
  have stop:∀ (m:Nat) (Cs Bs:List (List Trip)) (R:List Trip),Bs.length<=1->zlj key (2*s) Cs->zlj key s Bs->R.length<s->(Cs.flatten++Bs.flatten++R).length=N->∃ (Es As:List (List Trip)),Lp (zAj N cmp s) m ((Cs.flatten.length:Int),((Cs.flatten.length+2*s:Nat):Int),Cs.flatten++Bs.flatten++R) ((Es.flatten.length:Int),Es.flatten++As.flatten++R)/\zlj key (2*s) Es/\zlj key s As/\As.length<=1/\zdb key (Cs.flatten++Bs.flatten++R) (Es.flatten++As.flatten++R):=by
    intro m Cs Bs R h1 hC hB hR hn;have hbl:=hB.len;simp only [List.length_append] at hn;have:s*Bs.length<=s:=by
      rcases Nat.le_one_iff_eq_zero_or_eq_one.1 h1 with h | h<;>rw [h]<;>omega
    refine ⟨Cs,Bs,Lp.done ?_,hC,hB,h1,zdb.refl _⟩;unfold zAj;simp only [decide_eq_false (show ¬ ((Cs.flatten.length+2*s:Nat):Int)<=(N:Int) by omega),cond_false]
  intro m;induction m with
  | zero=>intro Cs Bs R h hC hB hR hn; exact stop 0 Cs Bs R J hC hB hR hn
  | succ m ih=>
    intro Cs Bs R h hC hB hR hn
    match Bs,h,hB,hn with
    | [],_,hB,hn=>exact stop _ Cs [] R Ol hC hB hR hn
    | [X],_,hB,hn=>exact stop _ Cs [X] R Ol hC hB hR hn
    | X::Y::Bs,h,hB,hn=>
      obtain ⟨lX,sX⟩:=hB X Ol;obtain ⟨lY,sY⟩:=hB Y Ol;have hB2:zlj key s Bs:=λb hb=>hB b (by simp [hb]);have hn2:=hn;simp only [List.flatten_cons,List.length_append] at hn2;obtain ⟨M,h1,h2,h3⟩:=ztm hc big (X.length+Y.length) Of X Y Cs.flatten (Bs.flatten++R) (List.length_pos_iff.1 J) (List.length_pos_iff.1 J) (Nat.le_refl _) sX sY On;have lM:M.length=2*s:=by rw [h3.len,List.length_append]; omega
      have eF:(Cs++[M]).flatten=Cs.flatten++M:=by simp
      have lF:(Cs++[M]).flatten.length=Cs.flatten.length+2*s:=by rw [eF,List.length_append,lM]
      obtain ⟨Es,As,h4,h5,h6,h7,h8⟩:=ih (Cs++[M]) Bs R (by simp only [List.length_cons] at h; omega) (hC.snoc lM h2) hB2 hR (by simp only [List.length_append,lF]; omega);have eD:Cs.flatten++X++Y++(Bs.flatten++R)=Cs.flatten++(X::Y::Bs).flatten++R:=by simp
      have eD2:Cs.flatten++M++(Bs.flatten++R)=(Cs++[M]).flatten++Bs.flatten++R:=by simp
      rw [eD,eD2,lX,lY,show Cs.flatten.length+s+s=Cs.flatten.length+2*s by omega] at h1;refine ⟨Es,As,Lp.step ?_ h4,h5,h6,h7, ?_⟩
      · unfold zAj;have e1:w64 ((Cs.flatten.length:Int)+(s:Int))=((Cs.flatten.length+s:Nat):Int):=by rw [zk J J]; omega
        simp only [decide_eq_true (show ((Cs.flatten.length+2*s:Nat):Int)<=(N:Int) by omega),cond_true,e1,h1,Zs];rw [lF,zk (n:=2*(s:Int)) J J,zk J J];simp only [Option.some.injEq,Sum.inl.injEq,Prod.mk.injEq,true_and,and_true];omega
      · refine zdb.trans ?_ h8;rw [← eD,← eD2];have e3:Cs.flatten++X++Y=Cs.flatten++(X++Y):=by simp
        rw [e3];exact ((zdb.refl _).append h3).append (zdb.refl _)
theorem ztp (N:Nat) (hN:N<100000000000):∀ (m s:Nat) (Bs:List (List Trip)) (R:List Trip),0<s->N<=m+s->zlj key s Bs->R.length<s->zfr key R->(Bs.flatten++R).length=N ->
    ∃ M,Lp (zyZ N cmp) m ((s:Int),Bs.flatten++R) M/\zfr key M/\zdb key (Bs.flatten++R) M:=by
  have stop:∀ (m s:Nat) (Bs:List (List Trip)) (R:List Trip),0<s->N<=s->zlj key s Bs->R.length<s->zfr key R->(Bs.flatten++R).length=N->∃ M,Lp (zyZ N cmp) m ((s:Int),Bs.flatten++R) M/\zfr key M/\zdb key (Bs.flatten++R) M:=by
    intro m s Bs R h0 hs hB hR hR2 hn;refine ⟨Bs.flatten++R,Lp.done ?_, ?_,zdb.refl _⟩
    · unfold zyZ;simp only [decide_eq_false (show ¬ (s:Int)<(N:Int) by omega),cond_false]
    · have hbl:=hB.len;rw [List.length_append,hbl] at hn
      match Bs,hB,hn with
      | [],_,_=>simpa using hR2
      | [X],hB,hn=>
        have:R=[]:=List.length_eq_zero_iff.1 (by simp at hn; omega);subst this;simpa using (hB X Ol).2
      | X::Y::Bs,hB,hn=>
        simp only [List.length_cons,Nat.mul_add] at hn;omega
  intro m;induction m with
  | zero=>intro s Bs R h0 hs hB hR hR2 hn; exact stop 0 s Bs R h0 J hB hR hR2 hn
  | succ m ih=>
    intro s Bs R h0 hs hB hR hR2 hn;by_cases hsn:N<=s
    · exact stop _ s Bs R h0 hsn hB hR hR2 hn
    · have hn2:=hn;rw [List.length_append] at hn2;have hbl:Bs.length<=Bs.flatten.length:=by
        rw [hB.len];exact Nat.le_mul_of_pos_left _ h0
      obtain ⟨Es,As,h1,h2,h3,h4,h5⟩:=zto hc N s hN ⟨h0,by omega⟩ Bs.length [] Bs R (Nat.le_refl _) (λb hb=>by simp at hb) hB hR (by simpa using hn);simp only [List.flatten_nil,List.length_nil,List.nil_append,Nat.zero_add] at h1 h5;have hB1:=h1.big Of;have hlen:=h5.len;simp only [List.length_append] at hlen;have hEl:=h2.len
      -- what stands behind the blocks
      have last:∃ (Q:List Trip) ,Q.length<2*s/\zfr key Q/\zdb key (As.flatten++R) Q/\(cond (decide (w64 ((Es.flatten.length:Int)+(s:Int))<(N:Int))) (Zb (zr big (Es.flatten++As.flatten++R) (Es.flatten.length:Int) (w64 ((Es.flatten.length:Int)+(s:Int))) (N:Int) cmp) λy67=>(Ob (.inl (w64 ((s:Int)*2),y67)):Option ((Int×List Trip)⊕List Trip))) (Ob (.inl (w64 ((s:Int)*2),Es.flatten++As.flatten++R))))=Ob (.inl (((2*s:Nat):Int),Es.flatten++Q)):=by
        have e2:w64 ((s:Int)*2)=((2*s:Nat):Int):=by rw [zk J J]; omega
        have e1:w64 ((Es.flatten.length:Int)+(s:Int))=((Es.flatten.length+s:Nat):Int):=by rw [zk J J]; omega
        rw [e1,e2]
        match As,h3,h4 with
        | [],_,_=>
          simp only [List.flatten_nil,List.length_nil] at hlen;refine ⟨R,by omega,hR2,by simpa using zdb.refl (key:=key) R, ?_⟩;rw [decide_eq_false J,cond_false]; simp
        | [X],h3,_=>
          obtain ⟨lX,sX⟩:=h3 X Ol;simp only [List.flatten_cons,List.flatten_nil,List.append_nil] at hlen ⊢;by_cases hr:R=[]
          · subst hr;refine ⟨X,by omega,sX,by simpa using zdb.refl (key:=key) X, ?_⟩;simp only [List.length_nil] at hlen hn2;rw [decide_eq_false J,cond_false]; simp
          · have hrl:=List.length_pos_iff.2 hr;obtain ⟨M,g1,g2,g3⟩:=ztm hc big (X.length+R.length) Of X R Es.flatten [] (List.length_pos_iff.1 J) hr (Nat.le_refl _) sX hR2 (by simp only [List.length_append,List.length_nil]; omega);refine ⟨M,by rw [g3.len,List.length_append]; omega,g2,g3, ?_⟩;simp only [List.append_nil] at g1;rw [lX,show Es.flatten.length+s+R.length=N by omega] at g1;rw [decide_eq_true J,cond_true,g1,Zs]
        | X::Y::As,_,h4=>simp at h4
      obtain ⟨Q,q1,q2,q3,q4⟩:=last;have hst:zdb key (Bs.flatten++R) (Es.flatten++Q):=by
        refine h5.trans ?_;rw [List.append_assoc];exact (zdb.refl _).append q3
      obtain ⟨M,m1,m2,m3⟩:=ih (2*s) Es Q J J h2 q1 q2 (by rw [hst.len]; exact hn);refine ⟨M,Lp.step ?_ m1,m2,hst.trans m3⟩;unfold zyZ;simp only [decide_eq_true (show (s:Int)<(N:Int) by omega),cond_true];have e0:w64 (2*(s:Int))=((2*s:Nat):Int):=by rw [zk J J]; omega
      rw [e0];unfold zAj at hB1;rw [e0] at hB1;exact (congrArg (λo=>Zb o λt64:Int×List Trip=>cond (decide (w64 (t64.1+(s:Int))<(N:Int))) (Zb (zr big t64.2 t64.1 (w64 (t64.1+(s:Int))) (N:Int) cmp) λy67=>
        (Ob (.inl (w64 ((s:Int)*2),y67)):Option ((Int×List Trip)⊕List Trip))) (Ob (.inl (w64 ((s:Int)*2),t64.2)))) hB1).trans q4
theorem sorts (D:List Trip) (hl:D.length<100000000000):∃ M,zY D cmp=Ob M/\zfr key M/\zdb key D M:=by
 obtain ⟨Cs,Q,h1,h2,h3,h4⟩:=ztn hc D.length hl D.length [] D (Nat.le_refl _) (λb hb=>by simp at hb) Ol;simp only [List.flatten_nil,List.length_nil,List.nil_append,Nat.zero_add] at h1 h4;have hB:=h1.big Of;have hlen:=h4.len;rw [List.length_append] at hlen;obtain ⟨M,g1,g2,g3⟩:=zwp hc Cs.flatten Q [] (by simp only [List.length_append,List.length_nil]; omega);simp only [List.append_nil] at g1;rw [show Cs.flatten.length+Q.length=D.length by omega] at g1;have hst:zdb key D (Cs.flatten++M):=h4.trans ((zdb.refl _).append g3);obtain ⟨M2,m1,m2,m3⟩:=ztp hc D.length hl D.length 20 Cs M J J h2 (by rw [g3.len]; exact h3) g2 (by rw [hst.len]);have hB2:=m1.big Of;refine ⟨M2, ?_,m2,hst.trans m3⟩;unfold zY za4;rw [zo];have e1:iter (zyY (D.length:Int) cmp) big (0,20,D)=Ob ((Cs.flatten.length:Int),Cs.flatten++Q):=hB;unfold zyY at e1;rw [e1,Zs];simp only [];rw [g1,Zs];have e2:iter (zyZ (D.length:Int) cmp) big (20,Cs.flatten++M)=Ob M2:=hB2;unfold zyZ at e2;rw [e2]; rfl
end
theorem zyB {key:Trip->Int} {lt2:Trip->Trip->Prop} {L M:List Trip} (hs:zfr key M) (he:zdb key L M) (hL:L.Pairwise λa b=>key a=key b->lt2 a b):M.Pairwise λa b=>key a<key b\/(key a=key b/\lt2 a b):=by
 rw [List.pairwise_iff_forall_sublist];intro a b hab;have h1:key a<=key b:=List.pairwise_iff_forall_sublist.1 hs hab;by_cases hk:key a=key b
 . right;refine ⟨hk, ?_⟩;have h2:=hab.filter (λx=>key x==key a);rw [he (key a)] at h2;have h3:[a,b].filter (λx=>key x==key a)=[a,b]:=by simp [hk]
   rw [h3] at h2;exact List.pairwise_iff_forall_sublist.1 hL (h2.trans List.filter_sublist) hk
 . left; omega
theorem zjY {p:Plan} {l:Line} {home:Bool} {h o from_:Int} (j:Nat):zf7 p l home h o from_ j=zf7 p l home h o from_ 0+j*h:=by
 induction j with
 | zero=>simp
 | succ j ih=>
  rw [← zhv (p:=p) (l:=l) home j,ih,Int.natCast_add,Int.add_mul];omega
def zAP (p:Plan) (l:Line) (home:Bool) (h o from_ last before:Int):Nat:=((before-last-zf7 p l home h o from_ 0)/h+1).toNat
section
variable {p:Plan} {l:Line} (K:zrn p l) {h o from_:Int} (hh:30<=h/\h<=7200) (ho:0<=o/\o<=100000) (hf:0<=from_/\from_<=1000000) (home:Bool)
include K hh ho hf
theorem zAk {last before:Int} (hl:0<=last) (hb:0<=before/\before<=200000):zyu p l home h o from_ last before (zAP p l home h o from_ last before)/\((zAP p l home h o from_ last before:Nat):Int)*30<=max 0 (before-from_+30):=by
 have h0:=zhw K hh ho hf home 0;unfold zAP;generalize hX:before-last-zf7 p l home h o from_ 0=X;have h1:=Int.emod_add_mul_ediv X h;have h2:=Int.emod_nonneg X (show h≠0 by omega);have h3:=Int.emod_lt_of_pos X (show 0<h by omega);have h4:0<=X/h->X/h*30<=X:=λq=>by
  have:X/h*30<=X/h*h:=Int.mul_le_mul_of_nonneg_left J q;rw [Int.mul_comm (X/h) h] at this;omega
 have h5:max 0 X<=200000:=J
 have h6:(((X/h+1).toNat:Nat):Int)*30<=max 0 (before-from_+30):=by
  generalize X/h=Y at h4;omega
 refine ⟨⟨by omega,λj hj=>?_, ?_⟩,h6⟩
 . have hj2:(j:Int)<=X/h:=J
   have:=(Int.le_ediv_iff_mul_le (show 0<h by omega)).1 hj2;rw [zjY j];omega
 . have hj2:¬ ((((X/h+1).toNat:Nat):Int)<=X/h):=J
   rw [Int.le_ediv_iff_mul_le (show 0<h by omega)] at hj2;rw [zjY];omega
end
def mkT (p:Plan) (s:Service) (i:Nat) (home:Bool) (from_:Int) (j:Nat):Trip:=((i:Int),home,zAg p (ln0 s i) home (hd0 s i) (of0 s i) from_ j,zf7 p (ln0 s i) home (hd0 s i) (of0 s i) from_ j,())
def zy0 (p:Plan) (s:Service) (i:Nat) (home:Bool) (from_:Int) (w:List Works) (j:Nat):Bool:=zBR (zh2 (ln0 s i) home).1 w (zf7 p (ln0 s i) home (hd0 s i) (of0 s i) from_ j) (zdj p (ln0 s i) (zh2 (ln0 s i) home))
def trN (p:Plan) (s:Service) (w:List Works) (i:Nat) (home:Bool) (from_:Int) (n:Nat):List Trip:=((List.range n).filter (zy0 p s i home from_ w)).map (mkT p s i home from_)
def trC (p:Plan) (s:Service) (i:Nat) (home:Bool) (from_ until_:Int):Nat:=zAP p (ln0 s i) home (hd0 s i) (of0 s i) from_ (zdj p (ln0 s i) (zh2 (ln0 s i) home)) until_
def trL (p:Plan) (s:Service) (w:List Works) (from_ until_:Int) (i:Nat) (home:Bool):List Trip:=trN p s w i home from_ (trC p s i home from_ until_)
def zn9 (p:Plan) (s:Service) (w:List Works) (from_ until_:Int) (n:Nat):List (List Trip):=(List.range n).flatMap λi=>[trL p s w from_ until_ i Oc,trL p s w from_ until_ i Od]
theorem zvA {p:Plan} {s:Service} {w:List Works} {i:Nat} {home:Bool} {from_:Int} (n:Nat):trN p s w i home from_ (n+1)=trN p s w i home from_ n++(if zy0 p s i home from_ w n then [mkT p s i home from_ n] else []):=by
 unfold trN;rw [List.range_succ,List.filter_append,List.map_append];congr 1;by_cases h:zy0 p s i home from_ w n=Od
 . simp [List.filter_cons,h]
 . simp [List.filter_cons,h]
theorem zo8 {p:Plan} {s:Service} {w:List Works} {i:Nat} {home:Bool} {from_:Int} (n:Nat):(trN p s w i home from_ n).length<=n:=by
 unfold trN;rw [List.length_map];have:=List.length_filter_le (zy0 p s i home from_ w) (List.range n);rwa [List.length_range] at this
theorem ziE {p:Plan} {s:Service} {w:List Works} {a b:Int} (n:Nat):zn9 p s w a b (n+1)=zn9 p s w a b n++[trL p s w a b n Oc]++[trL p s w a b n Od]:=by
 unfold zn9;rw [List.range_succ,List.flatMap_append];simp
theorem zqf {p:Plan} {s:Service} {w:List Works} {a b:Int} (n:Nat):(zn9 p s w a b n).length=2*n:=by
 induction n with
 | zero=>rfl
 | succ n ih=>
  rw [ziE];simp only [List.length_append,ih,List.length_cons,List.length_nil];omega
section
variable {p:Plan} {s:Service} (V:zom p s) (H:zl3 p s) {w:List Works} (hw:w.length<=9223372036854775807) {from_ until_:Int} (hf:0<=from_/\from_<=until_) (hu:until_<=200000)
include V H hf hu
theorem zvB {i:Nat} (hi:i<s.1.length):0<=of0 s i/\of0 s i<=100000:=by
 have h1:=V.ob i hi;have h2:=V.hb i hi;omega
theorem zqg {i:Nat} (hi:i<s.1.length) (home:Bool):zyu p (ln0 s i) home (hd0 s i) (of0 s i) from_ (zdj p (ln0 s i) (zh2 (ln0 s i) home)) until_ (trC p s i home from_ until_)/\((trC p s i home from_ until_:Nat):Int)*30<=until_-from_+30:=by
 have K:=lnK V H hi;have KC:ztX p (ln0 s i) (zh2 (ln0 s i) home):=csO K;have l1:=KC.l1;have:=zAk K (V.hb i hi) (zvB V H hf hu hi) (from_:=from_) J home (last:=zdj p (ln0 s i) (zh2 (ln0 s i) home)) J (before:=until_) J;refine ⟨this.1, ?_⟩;have h2:=this.2;unfold trC;omega
def zAl (p:Plan) (s:Service) (w:List Works) (until_:Int) (i:Nat) (home:Bool):List Trip->(Int×Int)->Option (List Trip⊕List Trip):=(λs183 x168=>
Zb (zx (rnS p (ln0 s i)) (cond home 1 0)) λy186=>
cond (decide (w64 (x168.1+y186)>until_)) (Ob (.inr s183)) (Zb (zaE (rnS p (ln0 s i)) (cond home 1 0) x168.1 w) λy188=>
cond y188 (Zb (zcY 32 s183 ([(((i:Int),(cond home 1 0==(1:Int)),x168.2,x168.1,()):Trip)])) λx190=>
Ob (.inl x190)) (Ob (.inl s183))))
include hw in
theorem zwr {i:Nat} (hi:i<s.1.length) (home:Bool):zH (zAl p s w until_ i home) [] (rnS p (ln0 s i)) (cond home 1 0) (hd0 s i) (of0 s i) from_=Ob (.inr (trL p s w from_ until_ i home)):=by
 have K:=lnK V H hi;have KC:ztX p (ln0 s i) (zh2 (ln0 s i) home):=csO K;have l1:=KC.l1;have l2:=KC.l2;have hh:=V.hb i hi;have ho:=zvB V H hf hu hi;obtain ⟨C,_⟩:=zqg V H hf hu hi home;have hbd:=zAh K hh ho (from_:=from_) J home J (show 0<=until_/\until_<=200000 by omega) C;have hla:zx (rnS p (ln0 s i)) (cond home 1 0)=Ob (zdj p (ln0 s i) (zh2 (ln0 s i) home)):=by
  have:=zk0 K home;rw [this]; cases home<;>rfl
 have hside:(cond home 1 0==(1:Int))=home:=by cases home<;>rfl
 refine zyt K hh ho (from_:=from_) J home (N:=trC p s i home from_ until_) (by have:=C.b; omega) (step:=zAl p s w until_ i home) (λj=>trN p s w i home from_ j) (trL p s w from_ until_ i home) (by have:=hbd _ (Nat.le_refl _); omega) (λj hj=>?_) ?_
 . have h1:=C.i j hj;have h2:=hbd j J;have hjb:=C.b;unfold zAl;simp only [hla,Zs,hside];rw [zk (n:=zf7 p (ln0 s i) home (hd0 s i) (of0 s i) from_ j+_) J J,decide_eq_false J,cond_false,zAf K home J w hw,Zs,zvA];have hm:zBR (zh2 (ln0 s i) home).1 w (zf7 p (ln0 s i) home (hd0 s i) (of0 s i) from_ j) (zdj p (ln0 s i) (zh2 (ln0 s i) home))=zy0 p s i home from_ w j:=rfl;rw [hm];cases zy0 p s i home from_ w j with
   | false=>simp
   | true=>
    have hl:=zo8 (p:=p) (s:=s) (w:=w) (i:=i) (home:=home) (from_:=from_) j;simp only [cond_true,if_true];rw [zbf Oj,Zs];rfl
 . have h1:=C.e;have h2:=hbd _ (Nat.le_refl _);unfold zAl;simp only [hla,Zs];rw [zk (n:=zf7 p (ln0 s i) home (hd0 s i) (of0 s i) from_ _+_) J J,decide_eq_true J,cond_true];rfl
include hw in
theorem ztq {i:Nat} (hi:i<s.1.length) (acc:List (List Trip)) (ha:acc.length<=1000):iter (σ:=(List (List Trip)×Int)) (τ:=List (List Trip)) (λs157=>
cond (decide (s157.2<2)) (Zb (idx s.2.1 (i:Int)) λx165=>
Zb (idx s.2.2.1 (i:Int)) λx166=>
Zb (zat (rnS p (ln0 s i)) s157.2 x165 x166 from_) λy167=>
Zb (zH (σ:=List Trip) (τ:=List Trip) (λs183 x168=>
Zb (zx (rnS p (ln0 s i)) s157.2) λy186=>
cond (decide (w64 (x168.1+y186)>until_)) (Ob (.inr s183)) (Zb (zaE (rnS p (ln0 s i)) s157.2 x168.1 w) λy188=>
cond y188 (Zb (zcY 32 s183 ([(((i:Int),(s157.2==1),x168.2,x168.1,()):Trip)])) λx190=>
Ob (.inl x190)) (Ob (.inl s183)))) ([]) y167.1 y167.2.1 y167.2.2.1 y167.2.2.2.1 y167.2.2.2.2) λt192=>
alt (λb194=>Zb (zcY 24 s157.1 ([b194])) λx197=>
Ob (.inl (x197,w64 (s157.2+1)))) (λb195=>Zb (zcY 24 s157.1 ([b195])) λx200=>
Ob (.inl (x200,w64 (s157.2+1)))) t192) (Ob (.inr s157.1))) big (acc,0)=Ob (acc++[trL p s w from_ until_ i Oc]++[trL p s w from_ until_ i Od]):=by
 have hlh:=V.h;have hlo:=V.o;have a1:idx s.2.1 (i:Int)=Ob (hd0 s i):=zI (l:=s.2.1) 0 J;have a2:idx s.2.2.1 (i:Int)=Ob (of0 s i):=zI (l:=s.2.2.1) 0 J;have hd:∀ (r:zu) (a b c d:Int),zat r a b c d=Ob (r,a,b,c,d):=λ_ _ _ _ _=>rfl;have e0:=zwr V H hw hf hu hi Oc;have e1:=zwr V H hw hf hu hi Od;unfold zAl at e0 e1;simp only [cond_true,cond_false] at e0 e1;refine (Lp.step (N:=1) (s':=(acc++[trL p s w from_ until_ i Oc],1)) ?_ (Lp.step (N:=0) (s':=(acc++[trL p s w from_ until_ i Oc]++[trL p s w from_ until_ i Od],2)) ?_ (Lp.done (N:=0) rfl))).big Of
 . simp only [show decide ((0:Int)<2)=Od from rfl,cond_true,a1,a2,hd,Zs];rw [e0,Zs,zhZ,zbf Oj];rfl
 . simp only [show decide ((1:Int)<2)=Od from rfl,cond_true,a1,a2,hd,Zs];rw [e1,Zs,zhZ,zbf Oj];rfl
end
theorem zyC {n:Nat} (hn:n<=100000000):zay (n:Int)=Ob []:=by
 unfold zay;rw [show w64 ((0:Int)-0)=0 from rfl,Int.sub_zero,zk J J,decide_eq_false J];by_cases h:n=0
 . subst h; rfl
 . rw [decide_eq_true J];simp only [cond_false,cond_true];unfold zoW;rw [if_pos J,Zs];unfold slz;have:(List.replicate (n:Int).toNat ((0,Oc,0,0,()):Trip)).isEmpty=Oc:=by
    rw [List.isEmpty_eq_false_iff];intro e;have:=congrArg List.length e;simp at this;omega
   rw [this]; rfl
theorem ztr (ls:List (List Trip)) (hl:ls.length<=1000000) (hs:ls.flatten.length<=100000000):zaq ls=Ob ls.flatten:=by
  unfold zaq;have hfl:∀ i,(ls.take i).flatten.length<=ls.flatten.length:=λi=>by
    have h:=List.take_append_drop i ls;have h2:ls.flatten.length=(ls.take i).flatten.length+(ls.drop i).flatten.length:=by
      conv=>lhs; rw [← h,List.flatten_append,List.length_append]
    omega
  have hsn:∀ i (h:i<ls.length),(ls.take (i+1)).flatten=(ls.take i).flatten++ls.getD i []:=λi h=>by
    rw [List.take_add_one,List.flatten_append];simp [List.getD,h]
  have k1:∀ k i:Nat,i+k=ls.length->Lp (λs4:Int×Int=>
cond (decide (s4.2<zq ls)) (Zb (idx ls s4.2) λx7=>
cond (decide (w64 (s4.1+zq x7)<0)) Oe (Ob (Sum.inl (w64 (s4.1+zq x7),w64 (s4.2+1))))) (Ob (.inr s4.1))) k (((ls.take i).flatten.length:Nat),(i:Int)) ((ls.flatten.length:Nat):Int):=by
    intro k;induction k with
    | zero=>
      intro i hi;have:i=ls.length:=J
      subst this;refine Lp.done ?_;simp only [zba,cond_false,List.take_length]
    | succ k ih=>
      intro i hi;have hil:i<ls.length:=J
      have h1:=hfl (i+1);have h2:=hsn i hil;have h3:(ls.take (i+1)).flatten.length=(ls.take i).flatten.length+(ls.getD i []).length:=by rw [h2,List.length_append]
      refine Lp.step ?_ (ih (i+1) J);simp only [za5 hil,cond_true,zI [] hil,Zs,z7 (show i<9223372036854775807 by omega)];rw [zo,zk J J,decide_eq_false J,cond_false,h3];congr 3
  have k2:∀ k i:Nat,i+k=ls.length->Lp (λs17:List Trip×Int=>
cond (decide (s17.2<zq ls)) (Zb (idx ls s17.2) λx20=>
Zb (zcY 32 s17.1 x20) λx21=>
Ob (Sum.inl (x21,w64 (s17.2+1)))) (Ob (.inr s17.1))) k ((ls.take i).flatten,(i:Int)) ls.flatten:=by
    intro k;induction k with
    | zero=>
      intro i hi;have:i=ls.length:=J
      subst this;refine Lp.done ?_;simp only [zba,cond_false,List.take_length]
    | succ k ih=>
      intro i hi;have hil:i<ls.length:=J
      have h1:=hfl (i+1);have h2:=hsn i hil;have h3:(ls.take (i+1)).flatten.length=(ls.take i).flatten.length+(ls.getD i []).length:=by rw [h2,List.length_append]
      refine Lp.step ?_ (ih (i+1) J);simp only [za5 hil,cond_true,zI [] hil,Zs,z7 (show i<9223372036854775807 by omega)];rw [zbf J,Zs,h2]
  have e1:=(k1 ls.length 0 J).big Of;have e2:=(k2 ls.length 0 J).big Of;rw [show (((ls.take 0).flatten.length:Nat):Int)=0 from rfl,show ((0:Nat):Int)=0 from rfl] at e1;rw [show (ls.take 0).flatten=[] from rfl,show ((0:Nat):Int)=0 from rfl] at e2;rw [e1,Zs,zyC hs,Zs,e2];rfl
def zhC (x:Trip):Int:=x.2.2.2.1
theorem zyD (x y:Trip):∃ v,zcW (x,y).1 (x,y).2=Ob v/\(v<0↔zhC x<zhC y):=by
 unfold zcW zbD zhC;have hN:∀ z:Int,zbo z=Ob Oc:=λz=>by
  unfold zbo;simp
 simp only [hN,Zs,cond_false];by_cases h:x.2.2.2.1<y.2.2.2.1
 . rw [decide_eq_true h];exact ⟨-1,rfl,by simp [h]⟩
 . rw [decide_eq_false h];by_cases h2:x.2.2.2.1>y.2.2.2.1
   . rw [decide_eq_true h2];exact ⟨1,rfl,by simp [h]⟩
   . rw [decide_eq_false h2];exact ⟨0,rfl,by simp [h]⟩
section
variable {p:Plan} {s:Service} (V:zom p s) (H:zl3 p s) {w:List Works} {from_ until_:Int} (hf:0<=from_/\from_<=until_) (hu:until_<=200000)
include V H hf hu
def zts (p:Plan) (s:Service) (w:List Works) (from_ until_:Int):List Trip:=(zn9 p s w from_ until_ s.1.length).flatten
theorem zvC (n:Nat) (hn:n<=s.1.length):((zn9 p s w from_ until_ n).flatten.length:Int)*15<=n*(until_-from_+30):=by
 induction n with
 | zero=>simp [zn9]
 | succ n ih=>
  have h1:=ih J;have a:=(zqg V H hf hu (i:=n) J Oc).2;have b:=(zqg V H hf hu (i:=n) J Od).2;have c:=zo8 (p:=p) (s:=s) (w:=w) (i:=n) (home:=Oc) (from_:=from_) (trC p s n Oc from_ until_);have d:=zo8 (p:=p) (s:=s) (w:=w) (i:=n) (home:=Od) (from_:=from_) (trC p s n Od from_ until_);rw [ziE,List.flatten_append,List.flatten_append,List.length_append,List.length_append];simp only [List.flatten_cons,List.flatten_nil,List.append_nil];unfold trL;rw [Int.natCast_add n 1,Int.add_mul (n:Int)];omega
theorem ztt (hwk:zAe p w=Od):∃ M,zci p s w from_ until_=Ob (if (M.length:Int)>5000 then ([],3) else (M,0))/\zfr zhC M/\zdb zhC (zts p s w from_ until_) M:=by
  have hn:=V.n;have hw:w.length<=9223372036854775807:=by
    unfold zAe at hwk;rw [Bool.and_eq_true] at hwk;have h1:=of_decide_eq_true hwk.1;rw [zo] at h1;omega
  have hlen:=zvC V H (w:=w) hf hu s.1.length (Nat.le_refl _);have hal:(zts p s w from_ until_).length<=100000000:=by
    unfold zts;have:(s.1.length:Int)*(until_-from_+30)<=20*200030:=Int.mul_le_mul J J J J;omega
  obtain ⟨M,m1,m2,m3⟩:=sorts (cmp:=λx=>zcW x.1 x.2) (key:=zhC) zyD (zts p s w from_ until_) J;refine ⟨M, ?_,m2,m3⟩;unfold zci;rw [zjd H,if_pos (zys V H),Zs];simp only [Bool.not_true,cond_false,zl4 (zfo V.v) w hw,hwk,zha,zas.2 hf,Zs];rw [decide_eq_false (show ¬ until_>200000 by omega),cond_false];have key:∀ k i:Nat,i+k=s.1.length->Lp (λs108:List (List Trip)×Int=>
cond (decide (s108.2<zq (s.1.map (rnS p)))) (Zb (idx (s.1.map (rnS p)) s108.2) λx111=>
Zb (iter (σ:=(List (List Trip)×Int)) (τ:=List (List Trip)) (λs157=>
cond (decide (s157.2<2)) (Zb (idx s.2.1 s108.2) λx165=>
Zb (idx s.2.2.1 s108.2) λx166=>
Zb (zat x111 s157.2 x165 x166 from_) λy167=>
Zb (zH (σ:=List Trip) (τ:=List Trip) (λs183 x168=>
Zb (zx x111 s157.2) λy186=>
cond (decide (w64 (x168.1+y186)>until_)) (Ob (.inr s183)) (Zb (zaE x111 s157.2 x168.1 w) λy188=>
cond y188 (Zb (zcY 32 s183 ([((s108.2,(s157.2==1),x168.2,x168.1,()):Trip)])) λx190=>
Ob (.inl x190)) (Ob (.inl s183)))) ([]) y167.1 y167.2.1 y167.2.2.1 y167.2.2.2.1 y167.2.2.2.2) λt192=>
alt (λb194=>Zb (zcY 24 s157.1 ([b194])) λx197=>
Ob (.inl (x197,w64 (s157.2+1)))) (λb195=>Zb (zcY 24 s157.1 ([b195])) λx200=>
Ob (.inl (x200,w64 (s157.2+1)))) t192) (Ob (.inr s157.1))) big (s108.1,0)) λt202=>
Ob (.inl (t202,w64 (s108.2+1)))) (Ob (.inr s108.1))) k (zn9 p s w from_ until_ i,(i:Int)) (zn9 p s w from_ until_ s.1.length):=by
    intro k;induction k with
    | zero=>
      intro i hi;have:i=s.1.length:=J
      subst this;refine Lp.done ?_;simp only [];rw [decide_eq_false (by rw [zo,List.length_map]; omega),cond_false]
    | succ k ih=>
      intro i hi;have hil:i<s.1.length:=J
      refine Lp.step ?_ (ih (i+1) J);have a4:idx (s.1.map (rnS p)) (i:Int)=Ob (rnS p (ln0 s i)):=zAd (i:=(i:Int)) J;have a5:decide ((i:Int)<zq (s.1.map (rnS p)))=Od:=decide_eq_true (by rw [zo,List.length_map]; omega);have hside:=ztq V H hw hf hu hil (zn9 p s w from_ until_ i) (by rw [zqf]; omega);simp only [a5,cond_true,a4,Zs];rw [hside,Zs,ziE,z7 J]
  have hL:=(key s.1.length 0 J).big Of;rw [show zn9 p s w from_ until_ 0=[] from rfl,show ((0:Nat):Int)=0 from rfl] at hL;rw [hL,Zs];unfold zbM;rw [ztr _ (by rw [zqf]; omega) hal,Zs,show (zn9 p s w from_ until_ s.1.length).flatten=zts p s w from_ until_ from rfl,m1];simp only [Zs];rw [zo];by_cases h5:(M.length:Int)>5000
  · rw [decide_eq_true h5,if_pos h5]; rfl
  · rw [decide_eq_false h5,if_neg h5]; rfl
end
section
variable {p:Plan} {s:Service} (V:zom p s) (H:zl3 p s) {w:List Works} (hw:w.length<=9223372036854775807) {from_ until_:Int} (hf:0<=from_/\from_<=until_) (hu:until_<=200000)
include V H hf hu
theorem ztu (n:Nat):(zn9 p s w from_ until_ (n+1)).flatten=(zn9 p s w from_ until_ n).flatten++trL p s w from_ until_ n Oc++trL p s w from_ until_ n Od:=by
 rw [ziE,List.flatten_append,List.flatten_append];simp
end
def zAQ (a b:Trip):Prop:=a.1<b.1\/(a.1=b.1/\a.2.1=Oc/\b.2.1=Od)
theorem zoa {p:Plan} {s:Service} {w:List Works} {i:Nat} {home:Bool} {from_:Int} {n:Nat} {x:Trip} (h:x∈trN p s w i home from_ n):x.1=(i:Int)/\x.2.1=home:=by
 unfold trN at h;obtain ⟨j,_,rfl⟩:=List.mem_map.1 h;exact ⟨rfl,rfl⟩
theorem zAm {p:Plan} {s:Service} {w:List Works} {i:Nat} {home:Bool} {from_:Int} {n:Nat} (hh:1<=hd0 s i):(trN p s w i home from_ n).Pairwise λa b=>zhC a=zhC b->zAQ a b:=by
 unfold trN;rw [List.pairwise_map];refine List.Pairwise.filter _ (List.pairwise_lt_range.imp λ{a b} hab=>?_);intro he;exfalso;have h1:zf7 p (ln0 s i) home (hd0 s i) (of0 s i) from_ a=zf7 p (ln0 s i) home (hd0 s i) (of0 s i) from_ b:=he;rw [zjY a,zjY b] at h1;have h2:((a:Int)+1)*hd0 s i<=b*hd0 s i:=Int.mul_le_mul_of_nonneg_right J J;rw [Int.add_mul,Int.one_mul] at h2;omega
section
variable {p:Plan} {s:Service} (V:zom p s) (H:zl3 p s) {w:List Works} {from_ until_:Int} (hf:0<=from_/\from_<=until_) (hu:until_<=200000)
include V H hf hu
theorem zAn (n:Nat) (hn:n<=s.1.length):(zn9 p s w from_ until_ n).flatten.Pairwise (λa b=>zhC a=zhC b->zAQ a b)/\∀ x∈(zn9 p s w from_ until_ n).flatten,x.1<(n:Int):=by
 induction n with
 | zero=>exact ⟨List.Pairwise.nil,λx hx=>by cases hx⟩
 | succ n ih=>
  obtain ⟨h1,h2⟩:=ih J;have hh:=V.hb n J;rw [ztu V H hf hu];refine ⟨?_,λx hx=>?_⟩
  . rw [List.pairwise_append,List.pairwise_append];refine ⟨⟨h1,zAm J,λa ha b hb _=>?_⟩,zAm J,λa ha b hb _=>?_⟩
    . have:=h2 a ha;have hb:=(zoa hb).1;exact .inl J
    . have hb:=zoa hb;rcases List.mem_append.1 ha with ha | ha
      . have:=h2 a ha;exact .inl J
      . have ha:=zoa ha;exact .inr ⟨by omega,ha.2,hb.2⟩
  . rcases List.mem_append.1 hx with hx | hx
    . rcases List.mem_append.1 hx with hx | hx
      . have:=h2 x hx; omega
      . have:=(zoa hx).1; omega
    . have:=(zoa hx).1; omega
end
theorem zAo {M:List Trip} {R:Trip->Trip->Prop} (h:M.Pairwise R) {i j:Nat} (hij:i<j) (hj:j<M.length):R (M.getD i E0) (M.getD j E0):=by
 have:=List.pairwise_iff_getElem.1 h i j J hj hij;rwa [show M.getD i E0=M[i]'J by simp [List.getD,show i<M.length by omega],show M.getD j E0=M[j] by simp [List.getD,hj]]
section
variable {p:Plan} {s:Service} (V:zom p s) (H:zl3 p s) {w:List Works} (hw:w.length<=9223372036854775807) {from_ until_:Int} (hf:0<=from_/\from_<=until_) (hu:until_<=200000)
include V H hw hf hu
end
def zgr (p:Plan) (l:Line) (home:Bool) (h o k:Int):Int:=zjW p l home h o+k*h
section
variable {p:Plan} {l:Line} (K:zrn p l) {h o:Int} (hh:30<=h/\h<=7200) (ho:0<=o/\o<=100000)
include K hh
theorem ziF (k:Int):zgr p l Oc h o k+zdj p l l.1+l.2.2.2.2.1<=zgr p l Od h o k:=by
 obtain ⟨c1,c2,c3,c4,c5⟩:=ziD K (h:=h) J;unfold zgr zjW;simp only [cond_true,cond_false];omega
theorem zhe (k:Int):zgr p l Od h o k+zdj p l l.2.1+l.2.2.2.2.1<=zgr p l Oc h o (k+zfM p l h):=by
 obtain ⟨c1,c2,c3,c4,c5⟩:=ziD K (h:=h) J;have e:zol p l=zdj p l l.1+zdj p l l.2.1+2*l.2.2.2.2.1:=rfl;unfold zgr zjW;simp only [cond_true,cond_false];rw [Int.add_mul];omega
omit K hh in
theorem ze6 (hp:0<=h) {home:Bool} {a b:Int} (hab:a<=b):zgr p l home h o a<=zgr p l home h o b:=by
 have:=Int.mul_le_mul_of_nonneg_right hab hp;unfold zgr;omega
omit K hh in
theorem zhx {a b n:Int} (hn:1<=n) (hm:a%n=b%n) (hab:a<b):a+n<=b:=by
 have h1:=Int.emod_add_mul_ediv a n;have h2:=Int.emod_add_mul_ediv b n;have h3:a/n+1<=b/n:=by
  by_cases q:a/n+1<=b/n
  . exact q
  . exfalso;have:n*(b/n)<=n*(a/n):=Int.mul_le_mul_of_nonneg_left J J;omega
 have h4:n*(a/n+1)<=n*(b/n):=Int.mul_le_mul_of_nonneg_left h3 J;rw [Int.mul_add,Int.mul_one] at h4;omega
def zws (home:Bool):Bool:=!home
def zyE (p:Plan) (l:Line) (h:Int) (home:Bool) (k:Int):Int:=cond home (k+zfM p l h) k
def zmY (p:Plan) (l:Line) (home:Bool):Int:=zdj p l (zh2 l home)
theorem zyF (home:Bool) (k:Int):zgr p l home h o k+zmY p l home+l.2.2.2.2.1<=zgr p l (zws home) h o (zyE p l h home k):=by
 cases home
 . exact ziF K hh k
 . exact zhe K hh k
theorem zjZ (home:Bool):1<=zmY p l home:=by
 cases home
 . exact K.o.l1
 . exact K.h.l1
theorem zAp {hy hx:Bool} {ky kx:Int} (hm:ky%zfM p l h=kx%zfM p l h) (hd:zgr p l hy h o ky<=zgr p l hx h o kx) (hne:¬ (hy=hx/\ky=kx)):(hx=zws hy/\kx=zyE p l h hy ky)\/(zgr p l (zws hy) h o (zyE p l h hy ky)+zmY p l (zws hy)<=zgr p l hx h o kx):=by
 obtain ⟨c1,c2,c3,c4,c5⟩:=ziD K (h:=h) J;have hy0:=K.y;have l0:=K.o.l1;have l1:=K.h.l1;have hpos:(0:Int)<=h:=J
 have lt_of:∀ {home:Bool} {a b:Int},a<b->zgr p l home h o a<zgr p l home h o b:=λ{home a b} hab=>by
  have:=Int.mul_le_mul_of_nonneg_right (show a+1<=b by omega) hpos;rw [Int.add_mul,Int.one_mul] at this;unfold zgr;omega
 cases hy with
 | false=>
  cases hx with
  | false=>
   right;have hk:ky<kx:=by
    by_cases q:ky<kx
    ·exact q
    ·by_cases e:ky=kx
     ·exact absurd ⟨rfl,e⟩ hne
     ·have:=lt_of (home:=Oc) (show kx<ky by omega);omega
   have hs:=zhx c1 hm hk;have h1:=zhe K hh (o:=o) ky;have h2:=ze6 (p:=p) (l:=l) (o:=o) hpos (home:=Oc) hs;show zgr p l Od h o ky+zdj p l l.2.1<=_;omega
  | true=>
   by_cases e:kx=ky
   ·exact .inl ⟨rfl,e⟩
   ·right;have hk:ky<kx:=by
     by_cases q:ky<kx
     ·exact q
     ·exfalso;have hs:=zhx c1 hm.symm (show kx<ky by omega);have h1:=zhe K hh (o:=o) kx;have h2:=ze6 (p:=p) (l:=l) (o:=o) hpos (home:=Oc) hs;omega
    have hs:=zhx c1 hm hk;have h1:=zhe K hh (o:=o) ky;have h2:=ze6 (p:=p) (l:=l) (o:=o) hpos (home:=Oc) hs;have h3:=ziF K hh (o:=o) kx;show zgr p l Od h o ky+zdj p l l.2.1<=_;omega
 | true=>
  cases hx with
  | false=>
   have hk:ky<kx:=by
    by_cases q:ky<kx
    ·exact q
    ·exfalso;have h2:=ze6 (p:=p) (l:=l) (o:=o) hpos (home:=Oc) (show kx<=ky by omega);have h3:=ziF K hh (o:=o) ky;omega
   have hs:=zhx c1 hm hk;by_cases e:kx=ky+zfM p l h
   ·exact .inl ⟨rfl,e⟩
   ·right;have hm2:(ky+zfM p l h)%zfM p l h=kx%zfM p l h:=by rw [Int.add_emod_right]; exact hm
    have hs2:=zhx c1 hm2 J;have h1:=ziF K hh (o:=o) (ky+zfM p l h);have h2:=zhe K hh (o:=o) (ky+zfM p l h);have h3:=ze6 (p:=p) (l:=l) (o:=o) hpos (home:=Oc) hs2;show zgr p l Oc h o (ky+zfM p l h)+zdj p l l.1<=_;omega
  | true=>
   right;have hk:ky<kx:=by
    by_cases q:ky<kx
    ·exact q
    ·by_cases e:ky=kx
     ·exact absurd ⟨rfl,e⟩ hne
     ·have:=lt_of (home:=Od) (show kx<ky by omega);omega
   have hs:=zhx c1 hm hk;have h1:=ziF K hh (o:=o) (ky+zfM p l h);have h2:=ze6 (p:=p) (l:=l) (o:=o) hpos (home:=Od) hs;show zgr p l Oc h o (ky+zfM p l h)+zdj p l l.1<=_;omega
end
section
variable {p:Plan} {s:Service} (V:zom p s) (H:zl3 p s) {from_ until_:Int} (hf:0<=from_/\from_<=until_) (hu:until_<=200000)
include V H hf hu
theorem zqh {i:Nat} (hi:i<s.1.length) (home:Bool) (k:Int):(((i:Int),home,k%zfM p (ln0 s i) (hd0 s i),zgr p (ln0 s i) home (hd0 s i) (of0 s i) k,()):Trip)∈trL p s [] from_ until_ i home↔from_<=zgr p (ln0 s i) home (hd0 s i) (of0 s i) k/\zgr p (ln0 s i) home (hd0 s i) (of0 s i) k+zmY p (ln0 s i) home<=until_:=by
 have K:=lnK V H hi;have hh:=V.hb i hi;have ho:=zvB V H hf hu hi;obtain ⟨C,_⟩:=zqg V H hf hu hi home;have hT:∀ j:Nat,zf7 p (ln0 s i) home (hd0 s i) (of0 s i) from_ j=zgr p (ln0 s i) home (hd0 s i) (of0 s i) (zq2 p (ln0 s i) home (hd0 s i) (of0 s i) from_+j):=λj=>rfl;have hb0:=zhw K hh ho (from_:=from_) J home 0;have hb1:=ztj K hh ho (from_:=from_) J home;unfold trL trN;rw [List.mem_map];constructor
 . rintro ⟨j,hj,he⟩
   have hj2:=List.mem_range.1 (List.mem_filter.1 hj).1;have h1:=C.i j hj2;have h2:=zhw K hh ho (from_:=from_) J home j;have h3:zf7 p (ln0 s i) home (hd0 s i) (of0 s i) from_ j=zgr p (ln0 s i) home (hd0 s i) (of0 s i) k:=congrArg (λt:Trip=>t.2.2.2.1) he;rw [← h3];exact ⟨h2.2,h1⟩
 . rintro ⟨h1,h2⟩
   generalize hK0:zq2 p (ln0 s i) home (hd0 s i) (of0 s i) from_=K0 at *
   have hk:K0<=k:=by
    by_cases q:K0<=k
    . exact q
    . exfalso;have h3:=ze6 (p:=p) (l:=ln0 s i) (o:=of0 s i) (show 0<=hd0 s i by omega) (home:=home) (show k+1<=K0 by omega);have h4:=hT 0;rw [show K0+((0:Nat):Int)=K0 by omega] at h4;have h5:zgr p (ln0 s i) home (hd0 s i) (of0 s i) (k+1)=zgr p (ln0 s i) home (hd0 s i) (of0 s i) k+hd0 s i:=by unfold zgr; rw [Int.add_mul,Int.one_mul]; omega
      omega
   obtain ⟨j,hj⟩:∃ j:Nat,k=K0+j:=⟨(k-K0).toNat,by omega⟩;have hjN:j<trC p s i home from_ until_:=by
    by_cases q:j<trC p s i home from_ until_
    . exact q
    . exfalso;have h3:=C.e;rw [hT] at h3;have h4:=ze6 (p:=p) (l:=ln0 s i) (o:=of0 s i) (show 0<=hd0 s i by omega) (home:=home) (show K0+((trC p s i home from_ until_:Nat):Int)<=k by omega);unfold zmY at h2;omega
   refine ⟨j,List.mem_filter.2 ⟨List.mem_range.2 hjN,rfl⟩, ?_⟩;unfold mkT zAg;rw [hT,hK0,← hj]
theorem zqi {x:Trip}:x∈zts p s [] from_ until_↔∃ i:Nat,i<s.1.length/\∃ home:Bool,x∈trL p s [] from_ until_ i home:=by
 unfold zts zn9;simp only [List.mem_flatten,List.mem_flatMap,List.mem_range];constructor
 . rintro ⟨L,⟨i,hi,hL⟩,hx⟩
   rcases List.mem_cons.1 hL with rfl | hL
   . exact ⟨i,hi,Oc,hx⟩
   . rcases List.mem_cons.1 hL with rfl | hL
     . exact ⟨i,hi,Od,hx⟩
     . cases hL
 . rintro ⟨i,hi,home,hx⟩
   cases home
   . exact ⟨_,⟨i,hi,List.mem_cons_self ..⟩,hx⟩
   . exact ⟨_,⟨i,hi,List.mem_cons_of_mem _ (List.mem_cons_self ..)⟩,hx⟩
theorem zvD {i:Nat} {home:Bool} {x:Trip} (h:x∈trL p s [] from_ until_ i home):∃ k:Int,x=((i:Int),home,k%zfM p (ln0 s i) (hd0 s i),zgr p (ln0 s i) home (hd0 s i) (of0 s i) k,()):=by
 unfold trL trN at h;obtain ⟨j,_,rfl⟩:=List.mem_map.1 h;exact ⟨_,rfl⟩
end
def zwt (M:List Trip) (i c:Int):Nat->Option Nat
 | 0=>Oe
 | q+1=>if (M.getD q E0).1=i/\(M.getD q E0).2.2.1=c then Ob q else zwt M i c q
theorem zob (M:List Trip) (i c:Int) (q:Nat):zwt M i c (q+1)=if (M.getD q E0).1=i/\(M.getD q E0).2.2.1=c then Ob q else zwt M i c q:=rfl
theorem zhf {M:List Trip} {i c:Int}:∀ {q r:Nat},zwt M i c q=Ob r->r<q/\((M.getD r E0).1=i/\(M.getD r E0).2.2.1=c)/\∀ t,r<t->t<q->¬ ((M.getD t E0).1=i/\(M.getD t E0).2.2.1=c)
 | 0,r,h=>by cases h
 | q+1,r,h=>by
  rw [zob] at h;split at h
  . rename_i hc;cases h;exact ⟨by omega,hc,λt h1 h2=>by omega⟩
  . rename_i hc;obtain ⟨h1,h2,h3⟩:=zhf h;refine ⟨by omega,h2,λt h4 h5=>?_⟩;by_cases e:t=q
    . subst e; exact hc
    . exact h3 t h4 J
def ztv (p:Plan) (l:Line) (x:Trip):Int:=x.2.2.2.1+zmY p l x.2.1
section
variable {p:Plan} {l:Line} (K:zrn p l) {M:List Trip} (hM:M.length<=1000000) {N:Nat} {oL hL:List Int} {lay i:Int} {ls:List Line} {from_ until_:Int} (hlay:0<=lay/\lay<=3600) (hoL:idx oL (w64 (zq oL-1))=Ob (zdj p l l.1)) (hhL:idx hL (w64 (zq hL-1))=Ob (zdj p l l.2.1))
include K hM hlay hoL hhL
end
section
variable {p:Plan} {s:Service} (V:zom p s) (H:zl3 p s) {from_ until_:Int} (hf:0<=from_/\from_<=until_) (hu:until_<=200000) {M:List Trip} (hM:M.length<=1000000) (hS:zfr zhC M) (hE:zdb zhC (zts p s [] from_ until_) M)
include V H hf hu hM hS hE
theorem zCl:M.Pairwise λa b=>zhC a<zhC b\/(zhC a=zhC b/\zAQ a b):=zyB (lt2:=zAQ) hS hE (zAn V H (w:=[]) hf hu s.1.length (Nat.le_refl _)).1
theorem zAR {q:Nat} (hq:q<M.length):∃ i:Nat,i<s.1.length/\∃ (home:Bool) (k:Int),M.getD q E0=((i:Int),home,k%zfM p (ln0 s i) (hd0 s i),zgr p (ln0 s i) home (hd0 s i) (of0 s i) k,())/\from_<=zgr p (ln0 s i) home (hd0 s i) (of0 s i) k/\zgr p (ln0 s i) home (hd0 s i) (of0 s i) k+zmY p (ln0 s i) home<=until_:=by
 have hm:M.getD q E0∈M:=by
  rw [show M.getD q E0=M[q] by simp [List.getD,hq]];exact List.getElem_mem hq
 obtain ⟨i,hi,home,hx⟩:=(zqi V H hf hu).1 (hE.mem.1 hm);obtain ⟨k,hk⟩:=zvD V H hf hu hx;rw [hk] at hx;exact ⟨i,hi,home,k,hk,(zqh V H hf hu hi home k).1 hx⟩
theorem zCL {a b:Nat} (hab:a<b) (hb:b<M.length):M.getD a E0≠M.getD b E0:=by
 intro he;have:=zAo (zCl V H hf hu hM hS hE) hab hb;rw [he] at this;rcases this with h | ⟨_,h | ⟨_,h1,h2⟩⟩
 . omega
 . omega
 . rw [h1] at h2; cases h2
theorem zAq {a b:Nat} (hab:a<=b) (hb:b<M.length):zhC (M.getD a E0)<=zhC (M.getD b E0):=by
 by_cases e:a=b
 . subst e; exact Int.le_refl _
 . rcases zAo (zCl V H hf hu hM hS hE) (show a<b by omega) hb with h | h
   . omega
   . omega
end
theorem zq3:zcy=Ob Od:=Z
theorem zk3 (n a b:Int):zaa n a b=Ob (decide (a<=n)&&decide (n<=b)):=by
 unfold zaa;by_cases h:a<=n<;>simp [h]
theorem zk4 {xs:List Int} {p:Int->Option Bool} {q:Int->Bool} (hl:xs.length<4611686018427387904) (hp:∀ x∈xs,p x=Ob (q x)):zJ xs p=Ob (xs.any q):=by
 unfold zJ za6;rw [zgI xs.length (λi=>if h:i<xs.length then (if q xs[i] then Ob (i:Int) else Oe) else Oe) (Nat.lt_trans hl Oa)]
 . simp only [Zs];cases hf:(List.range xs.length).findSome? (λi=>if h:i<xs.length then (if q xs[i] then Ob (i:Int) else Oe) else Oe) with
   | none=>
    simp only [zdN,Zs];rw [List.findSome?_eq_none_iff] at hf;simp only [show decide ((-1:Int)>=0)=Oc from rfl];congr 1;symm;rw [List.any_eq_false];intro x hx;obtain ⟨i,hi,rfl⟩:=List.getElem_of_mem hx;have:=hf i (by simpa using hi);rw [dif_pos hi] at this;intro hq;rw [if_pos hq] at this;cases this
   | some r=>
    simp only [zhZ,Zs];obtain ⟨i,hi,h2⟩:=List.exists_of_findSome?_eq_some hf;simp only [List.mem_range] at hi;rw [dif_pos hi] at h2;split at h2
    . cases h2;rename_i hq;rw [decide_eq_true (show (i:Int)>=0 by omega)];congr 1;symm;exact List.any_eq_true.2 ⟨_,List.getElem_mem hi,hq⟩
    . cases h2
 . intro i hi;have hw2:w64 ((i:Int)+1)=i+1:=zk J J;have:decide ((i:Int)<zq xs)=Od:=decide_eq_true (by simp only [zo]; omega);simp only [this,cond_true,zd2 hi,Zs,hp _ (List.getElem_mem hi),hw2,dif_pos hi];cases q xs[i]<;>rfl
 . have:decide ((xs.length:Int)<zq xs)=Oc:=decide_eq_false (by simp only [zo]; omega);simp only [this,cond_false]
structure Few (t:List Task) (y:Yard):Prop where
 t:t.length<200
 r:y.2.2.1.length<=50
 d:y.1.length<=50
 row:∀ x∈y.1,x.length<=50
def T0:Task:=(0,0,0,0,())
def head (t:List Task) (y:Yard):Bool:=decide (t.length<=60)&&(decide (1<=y.2.2.1.length)&&decide (y.2.2.1.length<=40))&&decide (y.1.length=y.2.2.1.length)&&(decide (0<=y.2.1)&&decide (y.2.1<=3600))
def zq4 (y:Yard) (i:Nat):Bool:=decide ((y.1.getD i []).length=y.2.2.1.length)&&decide ((y.1.getD i []).getD i 0=0)&&(List.range y.2.2.1.length).all λj=>decide (-1<=(y.1.getD i []).getD j 0)&&decide ((y.1.getD i []).getD j 0<=20000)
def zl5 (t:List Task) (y:Yard) (i:Nat):Bool:=
 (decide (0<=(t.getD i T0).1)&&decide ((t.getD i T0).1<=(y.2.2.1.length:Int)-1))&&(decide (0<=(t.getD i T0).2.1)&&decide ((t.getD i T0).2.1<=(y.2.2.1.length:Int)-1))&&(decide (0<=(t.getD i T0).2.2.1)&&decide ((t.getD i T0).2.2.1<=(t.getD i T0).2.2.2.1))&&decide ((t.getD i T0).2.2.2.1<=200000)&&(decide (i=0)||decide ((t.getD (i-1) T0).2.2.1<=(t.getD i T0).2.2.1))
def fine (t:List Task) (y:Yard):Bool:=head t y&&(List.range y.2.2.1.length).all (zq4 y)&&(List.range t.length).all (zl5 t y)
theorem ztw (a b:Int):(a !=b)=!decide (a=b):=by
 by_cases h:a=b<;>simp [h]
theorem zk5 {p q:Prop} [Decidable p] [Decidable q] (h:p↔q):decide p=decide q:=by
 by_cases hp:p
 . rw [decide_eq_true hp,decide_eq_true (h.1 hp)]
 . rw [decide_eq_false hp,decide_eq_false (λq=>hp (h.2 q))]
theorem ztx (t:List Task) (y:Yard):(Zb (cond (decide (zq t>60)) (Ob Od) (Zb (zaa (zq y.2.2.1) 1 40) λy8=>
cond (!y8) (Ob Od) (cond ((zq y.1)!=zq y.2.2.1) (Ob Od) (Zb (zaa y.2.1 0 3600) λy11=>
Ob (!y11))))) λc6=>Ob c6)=Ob (!head t y):=by
 unfold head;simp only [zk3,Zs,ztw];have e1:decide (zq t>60)=!decide (t.length<=60):=by rw [← decide_not]; exact zk5 (by simp only [zo]; omega)
 have e2:decide (1<=zq y.2.2.1)=decide (1<=y.2.2.1.length):=zk5 (by simp only [zo]; omega);have e3:decide (zq y.2.2.1<=40)=decide (y.2.2.1.length<=40):=zk5 (by simp only [zo]; omega);have e4:decide (zq y.1=zq y.2.2.1)=decide (y.1.length=y.2.2.1.length):=zk5 (by simp only [zo]; omega);rw [e1,e2,e3,e4];generalize decide (t.length<=60)=a;generalize (decide (1<=y.2.2.1.length)&&decide (y.2.2.1.length<=40))=b;generalize decide (y.1.length=y.2.2.1.length)=c;generalize (decide (0<=y.2.1)&&decide (y.2.1<=3600))=d;cases a<;>cases b<;>cases c<;>cases d<;>rfl
theorem zvE {α:Type} (m:Option α):(m.bind λx=>Ob x)=m:=by cases m<;>rfl
theorem zq5 (a b:Int):decide (a<b)=!decide (b<=a):=by
 by_cases h:b<=a
 . rw [decide_eq_true h,decide_eq_false J]; rfl
 . rw [decide_eq_false h,decide_eq_true J]; rfl
theorem zq6 (t:List Task) (y:Yard) (ht:t.length<200) (hr:y.2.2.1.length<=50):zc3 t y=Ob (if fine t y then 0 else 2):=by
 unfold zc3 fine;have hh:=ztx t y;rw [zvE] at hh;rw [hh,Zs];cases hd:head t y with
 | false=>rfl
 | true=>
  have hn:y.1.length=y.2.2.1.length:=by
   simp only [head,Bool.and_eq_true,decide_eq_true_eq] at hd;exact hd.1.2
  simp only [Bool.not_true,cond_false,Bool.true_and];rw [zpO y.1.length (zq4 y) 2 Of]
  ·simp only [Zs,hn];cases hrow:(List.range y.2.2.1.length).all (zq4 y) with
   | false=>rfl
   | true=>
    simp only [if_true,zdN,Bool.true_and];rw [zpO t.length (zl5 t y) 2 Of]
    ·simp only [Zs];cases (List.range t.length).all (zl5 t y)<;>rfl
    ·intro i hi;have hw2:w64 ((i:Int)+1)=i+1:=zk J J;have hwl:w64 (zq y.2.2.1-1)=(y.2.2.1.length:Int)-1:=by rw [zo]; exact zk J J
     have e3:decide ((i:Int)<zq t)=Od:=decide_eq_true (by simp only [zo]; omega);simp only [e3,cond_true,zI T0 hi,Zs,hw2,zk3,hwl,gt_iff_lt,zq5];unfold zl5;generalize (decide (0<=(t.getD i T0).1)&&decide ((t.getD i T0).1<=(y.2.2.1.length:Int)-1))=b1;generalize (decide (0<=(t.getD i T0).2.1)&&decide ((t.getD i T0).2.1<=(y.2.2.1.length:Int)-1))=b2;generalize (decide (0<=(t.getD i T0).2.2.1)&&decide ((t.getD i T0).2.2.1<=(t.getD i T0).2.2.2.1))=b3;generalize decide ((t.getD i T0).2.2.2.1<=200000)=b4;by_cases h0:i=0
     ·subst h0;simp only [show decide (((0:Nat):Int)<=0)=Od from rfl,Bool.not_true,cond_false,show decide (0=0)=Od from rfl,Bool.true_or];cases b1<;>cases b2<;>cases b3<;>cases b4<;>rfl
     ·have e5:decide ((i:Int)<=0)=Oc:=decide_eq_false J;have hw3:w64 ((i:Int)-1)=((i-1:Nat):Int):=by rw [zk J J]; omega
      simp only [e5,Bool.not_false,cond_true,hw3,zI T0 (show i-1<t.length by omega),Zs,decide_eq_false h0,Bool.false_or];generalize decide ((t.getD (i-1) T0).2.2.1<=(t.getD i T0).2.2.1)=b5;cases b1<;>cases b2<;>cases b3<;>cases b4<;>cases b5<;>rfl
    ·have e3:decide ((t.length:Int)<zq t)=Oc:=decide_eq_false (by simp only [zo]; omega);simp only [e3,cond_false]
  ·intro i hi;have hw2:w64 ((i:Int)+1)=i+1:=zk J J;have e3:decide ((i:Int)<zq y.1)=Od:=decide_eq_true (by simp only [zo]; omega);simp only [e3,cond_true,zI [] hi,Zs,hw2,ztw];unfold zq4;have e4:decide (zq (y.1.getD i [])=zq y.2.2.1)=decide ((y.1.getD i []).length=y.2.2.1.length):=zk5 (by simp only [zo]; omega);rw [e4];by_cases h5:(y.1.getD i []).length=y.2.2.1.length
   ·simp only [decide_eq_true h5,Bool.not_true,cond_false,Bool.true_and,zI 0 (show i<(y.1.getD i []).length by omega),Zs];have hcf:zJ (y.1.getD i []) (λx=>zeQ x)=Ob ((y.1.getD i []).any λd=>!(decide (-1<=d)&&decide (d<=20000))):=by
     refine zk4 J (λx _=>?_);unfold zeQ;rw [zk3]; rfl
    rw [hcf,zkG _ _ 0,h5];simp only [Zs,Bool.not_not];generalize decide ((y.1.getD i []).getD i 0=0)=b1;generalize (List.range y.2.2.1.length).all (λj=>decide (-1<=(y.1.getD i []).getD j 0)&&decide ((y.1.getD i []).getD j 0<=20000))=b2;cases b1<;>cases b2<;>rfl
   ·simp only [decide_eq_false h5,Bool.not_false,cond_true,Bool.false_and];rfl
  ·have e3:decide ((y.1.length:Int)<zq y.1)=Oc:=decide_eq_false (by simp only [zo]; omega);simp only [e3,cond_false]
theorem zoc (t:List Task) (y:Yard) (hf:Few t y):zc3 t y=Ob (if fine t y then 0 else 2):=zq6 t y hf.t hf.r
theorem zod {t:List Task} {y:Yard} (h:fine t y=Od) {i:Nat} (hi:i<t.length):(0<=(t.getD i T0).1/\(t.getD i T0).1<y.2.2.1.length)/\(0<=(t.getD i T0).2.1/\(t.getD i T0).2.1<y.2.2.1.length):=by
 simp only [fine,Bool.and_eq_true] at h;have:=List.all_eq_true.1 h.2 i (List.mem_range.2 hi);simp only [zl5,Bool.and_eq_true,decide_eq_true_eq] at this;omega
theorem zvF {t:List Task} {y:Yard} (h:fine t y=Od) {i:Nat} (hi:i<y.2.2.1.length):(y.1.getD i []).length=y.2.2.1.length/\y.1.length=y.2.2.1.length:=by
 simp only [fine,Bool.and_eq_true] at h;have h1:=List.all_eq_true.1 h.1.2 i (List.mem_range.2 hi);simp only [zq4,Bool.and_eq_true,decide_eq_true_eq] at h1;have h2:=h.1.1;simp only [head,Bool.and_eq_true,decide_eq_true_eq] at h2;exact ⟨h1.1.1,h2.1.2⟩
def zk6 (t:List Task) (y:Yard) (a b:Int):Bool:=
 let x:=t.getD a.toNat T0; let z:=t.getD b.toNat T0; let d:=(y.1.getD x.2.1.toNat []).getD z.1.toNat 0
 decide (a<b)&&(decide (d>=0)&&decide (w64 (w64 (x.2.2.2.1+y.2.1)+d)<=z.2.2.1))
theorem zjv {t:List Task} {y:Yard} (h:fine t y=Od) {a b:Int} (ha:0<=a/\a<t.length) (hb:0<=b/\b<t.length):zG (t,y,()) a b=Ob (zk6 t y a b):=by
 have h1:=zod h (show a.toNat<t.length by omega);have h2:=zod h (show b.toNat<t.length by omega);have h3:=zvF h (show (t.getD a.toNat T0).2.1.toNat<y.2.2.1.length by omega);unfold zG zk6;simp only [zaV (d:=T0) ha.1 ha.2,zaV (d:=T0) hb.1 hb.2,Zs,zaV (d:=[]) h1.2.1 (show (t.getD a.toNat T0).2.1<(y.1.length:Int) by omega),zaV (d:=0) h2.1.1 (show (t.getD b.toNat T0).1<((y.1.getD (t.getD a.toNat T0).2.1.toNat []).length:Int) by omega)];cases decide (a<b)<;>cases decide ((y.1.getD (t.getD a.toNat T0).2.1.toNat []).getD (t.getD b.toNat T0).1.toNat 0>=0)<;>rfl
def zty (l:List Int) (x:Int):Bool:=l.any λy=>y==x
theorem zq7 (l:List Int) (x:Int):zty l x=!((List.range l.length).all λi=>!(l.getD i 0==x)):=zkG l _ 0
theorem zo9 {l:List Int} {x:Int} (hl:l.length<1000):zbK l x=Ob (zty l x):=by
 unfold zbK zcj;rw [zgI l.length (λi=>if l.getD i 0=x then Ob (i:Int) else Oe) Of]
 ·rw [zq7];simp only [Zs];cases hf:(List.range l.length).findSome? (λi=>if l.getD i 0=x then Ob (i:Int) else Oe) with
  | none=>
   rw [List.findSome?_eq_none_iff] at hf;have:(List.range l.length).all (λi=>!(l.getD i 0==x))=Od:=List.all_eq_true.2 λi hi=>by
    have:=hf i hi;split at this
    ·cases this
    ·rename_i h; simpa using h
   rw [this]; rfl
  | some r=>
   obtain ⟨i,hi,h2⟩:=List.exists_of_findSome?_eq_some hf;split at h2
   ·cases h2;rename_i h;have:(List.range l.length).all (λi=>!(l.getD i 0==x))=Oc:=List.all_eq_false.2 ⟨i,hi,by simp only [h,beq_self_eq_true]; decide⟩;rw [this];simp only [zhZ,Zs,decide_eq_true (show (i:Int)>=0 by omega)];rfl
   ·cases h2
 ·intro i hi;have e3:decide ((i:Int)<zq l)=Od:=decide_eq_true (by simp only [zo]; omega);have hw2:w64 ((i:Int)+1)=i+1:=zk J J;simp only [e3,cond_true,zI 0 hi,Zs,hw2];by_cases h:l.getD i 0=x
  ·rw [if_pos h,show (x==l.getD i 0)=Od by rw [h]; exact beq_self_eq_true x]; rfl
  ·rw [if_neg h,show (x==l.getD i 0)=Oc by rw [beq_eq_false_iff_ne]; exact λe=>h e.symm]; rfl
 ·have e3:decide ((l.length:Int)<zq l)=Oc:=decide_eq_false (by simp only [zo]; omega);simp only [e3,cond_false]
def InR (n:Nat) (x:Int):Prop:=0<=x/\x<n
structure zCW (t:List Task) (row:List Int) (s:Int×Int×List Bool):Prop where
 lo:0<=s.2.1
 hi:s.2.1<=row.length
 us:s.2.2.length=t.length
 ok:∀ k:Nat,(k:Int)<s.2.1->InR t.length (row.getD k 0)
structure zCM (t:List Task) (p:List (List Int)) (s:Int×Int×List Bool):Prop where
 lo:0<=s.2.1
 hi:s.2.1<=p.length
 us:s.2.2.length=t.length
 ok:∀ k:Nat,(k:Int)<s.2.1->∀ x∈p.getD k [],InR t.length x
 nz:∀ k:Nat,(k:Int)<s.2.1->0<(p.getD k []).length
theorem zdK {A:Type} [DecidableEq A]:∀ {l m:List A},l.Nodup->(∀ x∈l,x∈m)->l.length<=m.length
 | [],_,_,_=>Nat.zero_le _
 | x::l,m,hn,hs=>by
  have hn':=List.nodup_cons.1 hn;have h1:∀ y∈l,y∈m.erase x:=λy hy=>(List.mem_erase_of_ne (λe=>hn'.1 (by rw [← e]; exact hy))).2 (hs y (List.mem_cons_of_mem _ hy));have h2:=zdK hn'.2 h1;have h3:=List.length_erase_of_mem (hs x List.mem_cons_self);have h4:0<m.length:=List.length_pos_of_mem (hs x List.mem_cons_self);simp only [List.length_cons];omega
structure IsM (E:Int->Int->Prop) (l:List (Int×Int)):Prop where
 e:∀ q∈l,E q.1 q.2
 f:(l.map (·.1)).Nodup
 s:(l.map (·.2)).Nodup
theorem IsM.filter {E:Int->Int->Prop} {l:List (Int×Int)} (h:IsM E l) (p:Int×Int->Bool):IsM E (l.filter p):=
 ⟨λq hq=>h.e q (List.mem_filter.1 hq).1,h.f.sublist (List.filter_sublist.map _),h.s.sublist (List.filter_sublist.map _)⟩
theorem IsM.append {E:Int->Int->Prop} {l m:List (Int×Int)} (h:IsM E l) (g:IsM E m) (h1:∀ p∈l,∀ q∈m,p.1≠q.1) (h2:∀ p∈l,∀ q∈m,p.2≠q.2):IsM E (l++m):=by
 refine ⟨λq hq=>(List.mem_append.1 hq).elim (h.e q) (g.e q), ?_, ?_⟩
 . rw [List.map_append,List.nodup_append];refine ⟨h.f,g.f,λa ha b hb=>?_⟩;obtain ⟨p,hp,rfl⟩:=List.mem_map.1 ha;obtain ⟨q,hq,rfl⟩:=List.mem_map.1 hb;exact h1 p hp q hq
 . rw [List.map_append,List.nodup_append];refine ⟨h.s,g.s,λa ha b hb=>?_⟩;obtain ⟨p,hp,rfl⟩:=List.mem_map.1 ha;obtain ⟨q,hq,rfl⟩:=List.mem_map.1 hb;exact h2 p hp q hq
theorem zgO {A B:Type} {f:A->B}:∀ {l:List A},(l.map f).Nodup->∀ {x y:A},x∈l->y∈l->f x=f y->x=y
 | [],_,_,_,hx,_,_=>by cases hx
 | a::l,hn,x,y,hx,hy,e=>by
  rw [List.map_cons,List.nodup_cons] at hn;rcases List.mem_cons.1 hx with rfl | hx'<;>rcases List.mem_cons.1 hy with rfl | hy'
  . rfl
  . exact (hn.1 (by rw [e]; exact List.mem_map_of_mem hy')).elim
  . exact (hn.1 (by rw [← e]; exact List.mem_map_of_mem hx')).elim
  . exact zgO hn.2 hx' hy' e
structure Most (E:Int->Int->Prop) (A:Int->Prop) (l:List (Int×Int)):Prop where
 m:IsM E l
 a:∀ q∈l,A q.1
 most:∀ l',IsM E l'->(∀ q∈l',A q.1)->l'.length<=l.length
theorem ztz {E:Int->Int->Prop} {A:Int->Prop} {k:Int} {l l1:List (Int×Int)} (h:Most E A l) (h1:IsM E l1) (ha:∀ q∈l1,A q.1\/q.1=k) (hl:l1.length=l.length+1):Most E (λx=>A x\/x=k) l1:=by
 refine ⟨h1,ha,λl' h' ha'=>?_⟩;have hf:=h'.filter (λq=>q.1 !=k);have:=h.most _ hf (λq hq=>by
  have:=List.mem_filter.1 hq;rcases ha' q this.1 with h | h
  . exact h
  . exact absurd h (by simpa using this.2))
 have hc:(l'.filter (λq=>q.1==k)).length<=1:=by
  have hg:=h'.filter (λq=>q.1==k)
  match hm:l'.filter (λq=>q.1==k) with
  | []=>rw [hm]; simp
  | [_]=>rw [hm]; simp
  | p::q::t=>
   rw [hm] at hg;have hp:p∈l'.filter (λq=>q.1==k):=by rw [hm]; simp
   have hq:q∈l'.filter (λq=>q.1==k):=by rw [hm]; simp
   have e1:p.1=k:=by simpa using (List.mem_filter.1 hp).2
   have e2:q.1=k:=by simpa using (List.mem_filter.1 hq).2
   have:=hg.f;simp only [List.map_cons,List.nodup_cons,List.mem_cons] at this;exact (this.1 (.inl (by rw [e1,e2]))).elim
 have hsum:∀ l:List (Int×Int),l.length=(l.filter (λq=>q.1==k)).length+(l.filter (λq=>q.1 !=k)).length:=by
  intro l;induction l with
  | nil=>rfl
  | cons q l ih=>
   by_cases hq:q.1=k
   . have e1:(q.1==k)=Od:=by simpa using hq
     have e2:(q.1 !=k)=Oc:=by simpa using hq
     simp only [List.filter_cons,e1,e2,if_true,List.length_cons,ih,Bool.false_eq_true,if_false]; omega
   . have e1:(q.1==k)=Oc:=by simpa using hq
     have e2:(q.1 !=k)=Od:=by simpa using hq
     simp only [List.filter_cons,e1,e2,if_true,List.length_cons,ih,Bool.false_eq_true,if_false]; omega
 have:=hsum l';omega
theorem ztA {E:Int->Int->Prop} {A:Int->Prop} {k:Int} {l:List (Int×Int)} (h:Most E A l) (S R:Int->Prop) [DecidablePred S] (hk:R k) (hc:∀ a b,R a->E a b->S b) (hs:∀ b,S b->∃ a,(a,b)∈l/\R a):Most E (λx=>A x\/x=k) l:=by
 refine ⟨h.m,λq hq=>.inl (h.a q hq),λl' h' ha'=>?_⟩;have ho:=h'.filter (λq=>!decide (S q.2));have hi:=h.m.filter (λq=>decide (S q.2));have hout:∀ q∈l'.filter (λq=>!decide (S q.2)),¬ R q.1:=λq hq hr=>by
  have h1:=List.mem_filter.1 hq;have:=hc _ _ hr (h'.e q h1.1);simp [this] at h1
 have hin:∀ q∈l.filter (λq=>decide (S q.2)),R q.1:=λq hq=>by
  have h1:=List.mem_filter.1 hq;obtain ⟨a,h2,h3⟩:=hs q.2 (by simpa using h1.2);have:=zgO h.m.s h1.1 h2 rfl;rw [this]; exact h3
 have hu:=ho.append hi (λp hp q hq e=>hout p hp (e▸hin q hq)) (λp hp q hq e=>by
  have h1:=(List.mem_filter.1 hp).2;have h2:=(List.mem_filter.1 hq).2;rw [e] at h1
  simp_all)
 have h5:=h.most _ hu (λq hq=>by
  rcases List.mem_append.1 hq with hq | hq
  . have h1:=List.mem_filter.1 hq;rcases ha' q h1.1 with h2 | h2
    . exact h2
    . exact (hout q hq (h2▸hk)).elim
  . exact h.a q (List.mem_filter.1 hq).1)
 have h6:(l'.filter (λq=>decide (S q.2))).length<=(l.filter (λq=>decide (S q.2))).length:=by
  have:=zdK (h'.filter (λq=>decide (S q.2))).s (m:=(l.filter (λq=>decide (S q.2))).map (·.2)) (λb hb=>by
   obtain ⟨q,hq,rfl⟩:=List.mem_map.1 hb;have h1:=List.mem_filter.1 hq;obtain ⟨a,h2,_⟩:=hs q.2 (by simpa using h1.2);exact List.mem_map.2 ⟨(a,q.2),List.mem_filter.2 ⟨h2,h1.2⟩,rfl⟩)
  simpa using this
 have hsum:∀ l:List (Int×Int),l.length=(l.filter (λq=>decide (S q.2))).length+(l.filter (λq=>!decide (S q.2))).length:=by
  intro l;induction l with
  | nil=>rfl
  | cons q l ih=>
   by_cases hq:S q.2<;>simp [List.filter_cons,hq,ih]<;>omega
 have h7:=hsum l';have h8:=hsum l;rw [List.length_append] at h5;omega
def sb (l:List Bool) (b:Int):Bool:=l.getD b.toNat Oc
def mb (l:List Int) (b:Int):Int:=l.getD b.toNat (-1)
def zh4 (l:List Int):Nat:=l.countP λx=>decide (0<=x)
def zje (l:List Bool):Nat:=l.countP λx=>!x
theorem zjw {A:Type} {l:List A} {n:Nat} {a b:Int} {v d:A} (hl:l.length=n) (ha:InR n a) (hb:InR n b):(l.set a.toNat v).getD b.toNat d=if a=b then v else l.getD b.toNat d:=by
 unfold InR at ha hb;by_cases h:a=b
 . subst h;have:a.toNat<l.length:=J
   simp [List.getD,this]
 . have:a.toNat≠b.toNat:=J
   simp [List.getD,List.getElem?_set,this,h]
theorem zoe {l:List Bool} {n:Nat} {a b:Int} {v:Bool} (hl:l.length=n) (ha:InR n a) (hb:InR n b):sb (l.set a.toNat v) b=if a=b then v else sb l b:=zjw hl ha hb
theorem zfg {l:List Int} {n:Nat} {a b:Int} {v:Int} (hl:l.length=n) (ha:InR n a) (hb:InR n b):mb (l.set a.toNat v) b=if a=b then v else mb l b:=zjw hl ha hb
theorem zgP {A:Type} (p:A->Bool) (d:A):∀ (l:List A) (i:Nat) (x:A),i<l.length->(l.set i x).countP p+(if p (l.getD i d) then 1 else 0)=l.countP p+(if p x then 1 else 0)
 | [],i,x,h=>by simp at h
 | y::l,0,x,_=>by
  simp only [List.set_cons_zero,List.countP_cons,List.getD_cons_zero];omega
 | y::l,i+1,x,h=>by
  have:=zgP p d l i x (by simpa using h);simp only [List.set_cons_succ,List.countP_cons,List.getD_cons_succ];omega
section
variable (n:Nat) (g:Int->Int->Bool)
structure zpa (a:Int) (used seen:List Bool) (mt:List Int):Prop where
 lu:used.length=n
 ls:seen.length=n
 lm:mt.length=n
 rng:∀ b,InR n b->-1<=mb mt b/\mb mt b<n
 edge:∀ b,InR n b->0<=mb mt b->g (mb mt b) b=Od/\sb used b=Oc
 inj:∀ b b',InR n b->InR n b'->sb seen b=Oc->sb seen b'=Oc->0<=mb mt b->mb mt b=mb mt b'->b=b'
 fresh:∀ b,InR n b->sb seen b=Oc->mb mt b≠a
structure ziG (a:Int) (used seen:List Bool) (mt:List Int) (o:Bool×List Bool×List Int):Prop where
 ls:o.2.1.length=n
 lm:o.2.2.length=n
 mono:∀ b,InR n b->sb seen b=Od->sb o.2.1 b=Od
 rng:∀ b,InR n b->-1<=mb o.2.2 b/\mb o.2.2 b<n
 edge:∀ b,InR n b->0<=mb o.2.2 b->g (mb o.2.2 b) b=Od/\sb used b=Oc
 no:o.1=Oc->o.2.2=mt/\(∀ b,InR n b->g a b=Od->sb used b=Oc->sb o.2.1 b=Od) /\
  ∀ b,InR n b->sb o.2.1 b=Od->sb seen b=Oc->0<=mb mt b/\∀ b',InR n b'->g (mb mt b) b'=Od->sb used b'=Oc->sb o.2.1 b'=Od
 yes:o.1=Od->(∀ b,InR n b->sb seen b=Od->mb o.2.2 b=mb mt b) /\
  (∀ b b',InR n b->InR n b'->sb seen b=Oc->sb seen b'=Oc->0<=mb o.2.2 b->mb o.2.2 b=mb o.2.2 b'->b=b') /\
  (∀ b,InR n b->sb seen b=Oc->0<=mb o.2.2 b->mb o.2.2 b=a\/∃ b1,InR n b1/\sb seen b1=Oc/\mb mt b1=mb o.2.2 b) /\
  zh4 o.2.2=zh4 mt+1
end
section
variable {n:Nat} {g:Int->Int->Bool}
structure zyG (a:Int) (used seen:List Bool) (mt:List Int) (s:Int×List Bool×List Int):Prop where
 lo:a+1<=s.1
 hi:s.1<=n
 ls:s.2.1.length=n
 m:s.2.2=mt
 c:zje s.2.1<=zje seen
 mono:∀ b,InR n b->sb seen b=Od->sb s.2.1 b=Od
 done:∀ b,InR n b->b<s.1->g a b=Od->sb used b=Oc->sb s.2.1 b=Od
 clo:∀ b,InR n b->sb s.2.1 b=Od->sb seen b=Oc->0<=mb mt b/\∀ b',InR n b'->g (mb mt b) b'=Od->sb used b'=Oc->sb s.2.1 b'=Od
theorem zAS {a b:Int} {used seen cur:List Bool} {mt:List Int} (h:zpa n g a used seen mt) (ha:InR n a) (hb:InR n b) (hs:sb cur b=Oc) (hls:cur.length=n) (hmono:∀ b,InR n b->sb seen b=Od->sb cur b=Od) (hg:g a b=Od) (hu:sb used b=Oc) (hm:mb mt b<0) :
 ziG n g a used seen mt (Od,cur.set b.toNat Od,mt.set b.toNat a):=by
 have ha':=ha;have hb':=hb;unfold InR at ha' hb';have hsb:sb seen b=Oc:=by
  cases h1:sb seen b with
  | false=>rfl
  | true=>rw [hmono b hb h1] at hs; cases hs
 refine ⟨by simp only [List.length_set]; exact hls,by simp only [List.length_set]; exact h.lm,λx hx q=>?_,λx hx=>?_,λx hx q=>?_,λq=>(by cases q),λ_=>⟨λx hx q=>?_,λx x' hx hx' q q' p e=>?_,λx hx q p=>?_, ?_⟩⟩
 . simp only []; rw [zoe hls hb hx]; split
   . rfl
   . exact hmono x hx q
 . simp only []; rw [zfg h.lm hb hx]; split
   . omega
   . exact h.rng x hx
 . simp only [] at q ⊢; rw [zfg h.lm hb hx] at q ⊢; split
   . rename_i e; subst e; exact ⟨hg,hu⟩
   . rename_i e; rw [if_neg e] at q; exact h.edge x hx q
 . simp only []; rw [zfg h.lm hb hx]; rw [if_neg (λe=>by subst e; rw [hsb] at q; cases q)]
 . simp only [] at p e; rw [zfg h.lm hb hx] at p e; rw [zfg h.lm hb hx'] at e;by_cases e1:b=x
   . by_cases e2:b=x'
     . omega
     . rw [if_pos e1,if_neg e2] at e;exact (h.fresh x' hx' q' e.symm).elim
   . by_cases e2:b=x'
     . rw [if_neg e1,if_pos e2] at e;exact (h.fresh x hx q e).elim
     . rw [if_neg e1] at p e; rw [if_neg e2] at e;exact h.inj x x' hx hx' q q' p e
 . simp only [] at p ⊢; rw [zfg h.lm hb hx] at p ⊢; split
   . exact .inl rfl
   . exact .inr ⟨x,hx,q,rfl⟩
 . have:=zgP (λx=>decide (0<=x)) (-1) mt b.toNat a (by rw [h.lm]; omega);simp only [decide_eq_true (show 0<=a from ha'.1),decide_eq_false (show ¬ 0<=mt.getD b.toNat (-1) by unfold mb at hm; omega),if_true,Bool.false_eq_true,if_false] at this;unfold zh4;simp only [];omega
theorem zAT {a b:Int} {used seen cur:List Bool} {mt:List Int} {o:Bool×List Bool×List Int} (h:zpa n g a used seen mt) (ha:InR n a) (hb:InR n b) (hs:sb cur b=Oc) (hls:cur.length=n) (hmono:∀ b,InR n b->sb seen b=Od->sb cur b=Od) (hg:g a b=Od) (hu:sb used b=Oc) (hm:0<=mb mt b)
    (ho:ziG n g (mb mt b) used (cur.set b.toNat Od) mt o) (ht:o.1=Od):ziG n g a used seen mt (Od,o.2.1,o.2.2.set b.toNat a):=by
  have ha':=ha;have hb':=hb;unfold InR at ha' hb';have hsb:sb seen b=Oc:=by
    cases h1:sb seen b with
    | false=>rfl
    | true=>rw [hmono b hb h1] at hs; cases hs
  obtain ⟨y1,y2,y3,y4⟩:=ho.yes ht;have hc:∀ x,InR n x->sb (cur.set b.toNat Od) x=if b=x then Od else sb cur x:=λx hx=>zoe hls hb hx
  have hbm:mb o.2.2 b=mb mt b:=y1 b hb (by rw [hc b hb,if_pos rfl])
  -- what stands at an x that was not seen at the beginning,other than b
  have hval:∀ x,InR n x->sb seen x=Oc->b≠x->0<=mb o.2.2 x->(sb cur x=Od/\mb o.2.2 x=mb mt x)\/(sb cur x=Oc/\(mb o.2.2 x=mb mt b\/∃ b1,InR n b1/\sb cur b1=Oc/\b≠b1/\mb mt b1=mb o.2.2 x)):=by
    intro x hx hx0 hbx hp;cases h1:sb cur x with
    | true=>exact .inl ⟨rfl,y1 x hx (by rw [hc x hx,if_neg hbx]; exact h1)⟩
    | false=>
      refine .inr ⟨rfl, ?_⟩;rcases y3 x hx (by rw [hc x hx,if_neg hbx]; exact h1) hp with h2 | ⟨b1,h2,h3,h4⟩
      · exact .inl h2
      · rw [hc b1 h2] at h3;by_cases h5:b=b1
        · rw [if_pos h5] at h3; cases h3
        · rw [if_neg h5] at h3; exact .inr ⟨b1,h2,h3,h5,h4⟩
  have hns:∀ x,InR n x->sb cur x=Oc->sb seen x=Oc:=λx hx q=>by
    cases h1:sb seen x with
    | false=>rfl
    | true=>rw [hmono x hx h1] at q; cases q
  have hna:∀ x,InR n x->sb seen x=Oc->b≠x->0<=mb o.2.2 x->mb o.2.2 x≠a:=by
    intro x hx hx0 hbx hp;rcases hval x hx hx0 hbx hp with ⟨_,h2⟩ | ⟨_,h2 | ⟨b1,h3,h4,_,h5⟩⟩
    · rw [h2]; exact h.fresh x hx hx0
    · rw [h2]; exact h.fresh b hb hsb
    · rw [← h5]; exact h.fresh b1 h3 (hns b1 h3 h4)
  refine ⟨ho.ls,by simp only [List.length_set]; exact ho.lm,λx hx q=>?_,λx hx=>?_,λx hx q=>?_,λq=>(by cases q),λ_=>⟨λx hx q=>?_,λx x' hx hx' q q' p e=>?_,λx hx q p=>?_, ?_⟩⟩
  · exact ho.mono x hx (by
      rw [hc x hx]; split
      · rfl
      · exact hmono x hx q)
  · simp only []; rw [zfg ho.lm hb hx]; split
    · omega
    · exact ho.rng x hx
  · simp only [] at q ⊢; rw [zfg ho.lm hb hx] at q ⊢; split
    · rename_i e; subst e; exact ⟨hg,hu⟩
    · rename_i e; rw [if_neg e] at q; exact ho.edge x hx q
  · have hbx:b≠x:=λe=>by subst e; rw [hsb] at q; cases q
    simp only []; rw [zfg ho.lm hb hx,if_neg hbx];exact y1 x hx (by rw [hc x hx,if_neg hbx]; exact hmono x hx q)
  · simp only [] at p e; rw [zfg ho.lm hb hx] at p e; rw [zfg ho.lm hb hx'] at e;by_cases e1:b=x
    · by_cases e2:b=x'
      · omega
      · rw [if_pos e1,if_neg e2] at e;rw [if_pos e1] at p;exact (hna x' hx' q' e2 J e.symm).elim
    · by_cases e2:b=x'
      · rw [if_neg e1,if_pos e2] at e;rw [if_neg e1] at p;exact (hna x hx q e1 p e).elim
      · rw [if_neg e1] at p e; rw [if_neg e2] at e;have v1:=hval x hx q e1 p;have v2:=hval x' hx' q' e2 J;rcases v1 with ⟨c1,w1⟩ | ⟨c1,w1⟩<;>rcases v2 with ⟨c2,w2⟩ | ⟨c2,w2⟩
        · exact h.inj x x' hx hx' q q' J J
        · rcases w2 with w2 | ⟨b1,k1,k2,k3,k4⟩
          · exact (e1 (h.inj b x hb hx hsb q hm J)).elim
          · have:=h.inj b1 x k1 hx (hns b1 k1 k2) q J J;subst this; rw [k2] at c1; cases c1
        · rcases w1 with w1 | ⟨b1,k1,k2,k3,k4⟩
          · exact (e2 (h.inj b x' hb hx' hsb q' hm J)).elim
          · have:=h.inj b1 x' k1 hx' (hns b1 k1 k2) q' J J;subst this; rw [k2] at c2; cases c2
        · exact y2 x x' hx hx' (by rw [hc x hx,if_neg e1]; exact c1) (by rw [hc x' hx',if_neg e2]; exact c2) p e
  · simp only [] at p ⊢; rw [zfg ho.lm hb hx] at p ⊢; split
    · exact .inl rfl
    · rename_i e1;rw [if_neg e1] at p;refine .inr ?_;rcases hval x hx q e1 p with ⟨_,h2⟩ | ⟨_,h2 | ⟨b1,h3,h4,_,h5⟩⟩
      · exact ⟨x,hx,q,h2.symm⟩
      · exact ⟨b,hb,hsb,h2.symm⟩
      · exact ⟨b1,h3,hns b1 h3 h4,h5⟩
  · have:=zgP (λx=>decide (0<=x)) (-1) o.2.2 b.toNat a (by rw [ho.lm]; omega);simp only [decide_eq_true (show 0<=a from ha'.1),decide_eq_true (show 0<=o.2.2.getD b.toNat (-1) by unfold mb at hbm hm; omega),if_true] at this;unfold zh4 at y4 ⊢;simp only [];omega
end
section
variable {n:Nat} {g:Int->Int->Bool}
theorem zAU {a:Int} {used seen:List Bool} {mt:List Int} (h:zpa n g a used seen mt) {s:Int×List Bool×List Int} (i:zyG (n:=n) (g:=g) a used seen mt s) (he:¬ s.1<n):ziG n g a used seen mt (Oc,s.2.1,s.2.2):=by
 have h1:=i.hi;refine ⟨i.ls,by rw [i.m]; exact h.lm,i.mono,λb hb=>?_,λb hb q=>?_,λ_=>⟨i.m,λb hb=>i.done b hb ?_,i.clo⟩,λq=>by cases q⟩
 . simp only []; rw [i.m]; exact h.rng b hb
 . simp only [] at q ⊢; rw [i.m] at q ⊢; exact h.edge b hb q
 . unfold InR at hb; omega
def zAV (n:Nat) (g:Int->Int->Bool) (a:Int) (used seen:List Bool) (mt:List Int):(List Bool×List Int)⊕(Bool×List Bool×List Int)->Prop
 | .inl v=>ziG n g a used seen mt (Oc,v.1,v.2)
 | .inr o=>ziG n g a used seen mt o
theorem zmZ {l:List Bool} {b:Int} (hl:l.length=n) (hb:InR n b) (hs:sb l b=Oc):zje (l.set b.toNat Od)+1=zje l:=by
 unfold InR at hb;have:=zgP (λx=>!x) Oc l b.toNat Od J;unfold sb at hs;rw [hs] at this;exact this
theorem zAr {a:Int} {used seen:List Bool} {mt:List Int} {b:Int} {cur:List Bool} (i:zyG (n:=n) (g:=g) a used seen mt (b,cur,mt)) (hb:b<n) (hs:g a b=Od->sb used b=Oc->sb cur b=Od):zyG (n:=n) (g:=g) a used seen mt (b+1,cur,mt):=by
 have h1:=i.lo;simp only [] at h1;refine ⟨by simp only []; omega,by simp only []; omega,i.ls,rfl,i.c,i.mono,λx hx hlt q1 q2=>?_,i.clo⟩;simp only [] at hlt;by_cases e:x=b
 . subst e; exact hs q1 q2
 . exact i.done x hx (by simp only []; omega) q1 q2
theorem zAs {a:Int} {used seen:List Bool} {mt:List Int} {b:Int} {cur:List Bool} {o:Bool×List Bool×List Int} (i:zyG (n:=n) (g:=g) a used seen mt (b,cur,mt)) (hb:InR n b) (hs:sb cur b=Oc) (hm:0<=mb mt b) (ho:ziG n g (mb mt b) used (cur.set b.toNat Od) mt o) (hc:zje o.2.1<=zje cur) (ht:o.1=Oc):zyG (n:=n) (g:=g) a used seen mt (b+1,o.2.1,o.2.2):=by
 have h1:=i.lo;have hb':=hb;unfold InR at hb';have hls:=i.ls;simp only [] at h1 hls;obtain ⟨q1,q2,q3⟩:=ho.no ht;have hcs:∀ x,InR n x->sb (cur.set b.toNat Od) x=if b=x then Od else sb cur x:=λx hx=>zoe hls hb hx
 have hm1:∀ x,InR n x->sb cur x=Od->sb o.2.1 x=Od:=λx hx q=>ho.mono x hx (by rw [hcs x hx,q]; exact ite_self _);have hmb:sb o.2.1 b=Od:=ho.mono b hb (by rw [hcs b hb,if_pos rfl]);have hci:=i.c;refine ⟨by simp only []; omega,by simp only []; omega,ho.ls,q1,by simp only [] at hci ⊢; omega,λx hx q=>hm1 x hx (i.mono x hx q),λx hx hlt p1 p2=>?_,λx hx p1 p2=>?_⟩
 . simp only [] at hlt;by_cases e:x=b
   . subst e; exact hmb
   . exact hm1 x hx (i.done x hx (by simp only []; omega) p1 p2)
 . cases p3:sb cur x with
   | true=>
    obtain ⟨r1,r2⟩:=i.clo x hx p3 p2;exact ⟨r1,λb' hb' r3 r4=>hm1 b' hb' (r2 b' hb' r3 r4)⟩
   | false=>
    by_cases e:b=x
    . subst e;exact ⟨hm,λb' hb' r3 r4=>q2 b' hb' r3 r4⟩
    . exact q3 x hx p1 (by rw [hcs x hx,if_neg e]; exact p3)
theorem zAt {a:Int} {used seen:List Bool} {mt:List Int} {b:Int} {cur:List Bool} (h:zpa n g a used seen mt) (i:zyG (n:=n) (g:=g) a used seen mt (b,cur,mt)) (hb:InR n b) (hs:sb cur b=Oc) (hm:0<=mb mt b):zpa n g (mb mt b) used (cur.set b.toNat Od) mt:=by
 have hls:=i.ls;simp only [] at hls;have hcs:∀ x,InR n x->sb (cur.set b.toNat Od) x=if b=x then Od else sb cur x:=λx hx=>zoe hls hb hx
 have hns:∀ x,InR n x->sb cur x=Oc->sb seen x=Oc:=λx hx q=>by
  cases h1:sb seen x with
  | false=>rfl
  | true=>rw [show sb cur x=Od from i.mono x hx h1] at q; cases q
 have hcl:∀ x,InR n x->sb (cur.set b.toNat Od) x=Oc->b≠x/\sb seen x=Oc:=λx hx q=>by
  rw [hcs x hx] at q;by_cases e:b=x
  . rw [if_pos e] at q; cases q
  . rw [if_neg e] at q; exact ⟨e,hns x hx q⟩
 exact ⟨h.lu,by rw [List.length_set]; exact hls,h.lm,h.rng,h.edge,λx x' hx hx' q q' p e=>h.inj x x' hx hx' (hcl x hx q).2 (hcl x' hx' q').2 p e,λx hx q e=>(hcl x hx q).1 (h.inj b x hb hx (hns b hb hs) (hcl x hx q).2 hm e.symm)⟩
theorem zvG {w:zae} (hfol:∀ a b,InR n a->InR n b->zG w a b=Ob (g a b)) (hlt:∀ a b,g a b=Od->a<b) (hn:n<1000):∀ k a used seen mt,InR n a->zpa n g a used seen mt->zje seen<k->Tot (λo=>ziG n g a used seen mt o/\zje o.2.1<=zje seen) (zbO k a n used seen w mt):=by
 intro k;induction k with
 | zero=>intro a used seen mt _ _ hk; omega
 | succ k ih=>
  intro a used seen mt ha h hk;have ha':=ha;unfold InR at ha';show Tot _ (za7 (zbO k) a n used seen w mt);unfold za7;have hw0:w64 (a+1)=a+1:=zk J J;rw [hw0];refine Tot.bind (Q:=λt=>zAV n g a used seen mt t/\(match t with | .inl v=>zje v.1<=zje seen | .inr o=>zje o.2.1<=zje seen)) (Tot.iter (zyG (n:=n) (g:=g) a used seen mt) _ (λs=>n-s.1.toNat) ?_ Of ?_) ?_
  ·exact ⟨Int.le_refl _,by simp only []; omega,h.ls,rfl,Nat.le_refl _,λb _ q=>q,λb hb q1 q2=>by have:=hlt a b q2; simp only [] at q1; omega,λb hb q1 q2=>by simp only [] at q1; rw [q1] at q2; cases q2⟩
  ·rintro ⟨b,cur,mt1⟩ i
   have e0:mt1=mt:=i.m;subst e0;have i1:=i.lo;have i2:=i.hi;have i3:=i.ls;have i4:=i.c;simp only [] at i1 i2 i3 i4;by_cases hb:b<n
   ·have hbR:InR n b:=⟨by omega,hb⟩;have e1:decide (b<(n:Int))=Od:=decide_eq_true hb;have hw:w64 (b+1)=b+1:=zk J J;have hlu:=h.lu;have hlm:=h.lm;simp only [e1,cond_true,zaV (d:=Oc) (l:=used) hbR.1 J,Zs,hw];cases hu:used.getD b.toNat Oc with
    | true=>
     exact Tot.some ⟨zAr i hb (λ_ q=>by unfold sb at q; rw [hu] at q; cases q),by simp only []; omega⟩
    | false=>
     simp only [cond_false,zaV (d:=Oc) (l:=cur) hbR.1 J,Zs];cases hs:cur.getD b.toNat Oc with
     | true=>exact Tot.some ⟨zAr i hb (λ_ _=>hs),by simp only []; omega⟩
     | false=>
      simp only [cond_false,hfol a b ha hbR,Zs];cases hg:g a b with
      | false=>exact Tot.some ⟨zAr i hb (λq=>by rw [hg] at q; cases q),by simp only []; omega⟩
      | true=>
       simp only [Bool.not_true,cond_false,zaV (d:=(-1:Int)) (l:=mt1) hbR.1 J,Zs];by_cases hm:mt1.getD b.toNat (-1)<0
       ·simp only [decide_eq_true hm,cond_true];refine Tot.some (show zAV n g a used seen mt1 _/\_ from ⟨zAS h ha hbR hs i3 i.mono hg hu hm, ?_⟩);have:=zmZ (n:=n) i3 hbR hs;simp only [];omega
       ·have hm0:0<=mb mt1 b:=by unfold mb; omega
        have hmR:InR n (mb mt1 b):=⟨hm0,(h.rng b hbR).2⟩;have hcf:=zmZ (n:=n) i3 hbR hs;simp only [decide_eq_false hm,cond_false];refine Tot.bind (ih (mb mt1 b) used (cur.set b.toNat Od) mt1 hmR (zAt h i hbR hs hm0) J) ?_
        rintro o ⟨ho,hoc⟩
        have hol:=ho.lm;cases ht:o.1 with
        | true=>
         simp only [cond_true,zaV (d:=(-1:Int)) (l:=o.2.2) hbR.1 J,Zs];exact Tot.some (show zAV n g a used seen mt1 _/\_ from ⟨zAT h ha hbR hs i3 i.mono hg hu hm0 ho ht,by simp only []; omega⟩)
        | false=>
         simp only [cond_false];refine Tot.some ⟨zAs i hbR hs hm0 ho J ht,by simp only []; omega⟩
   ·have e1:decide (b<(n:Int))=Oc:=decide_eq_false hb;simp only [e1,cond_false];exact Tot.some (show zAV n g a used seen mt1 _/\_ from ⟨zAU h i hb,i4⟩)
  ·rintro t ⟨hq,hc⟩
   cases t with
   | inl v=>exact Tot.some ⟨hq,hc⟩
   | inr o=>exact Tot.some ⟨hq,hc⟩
end
instance (n:Nat) (b:Int):Decidable (InR n b):=by unfold InR; infer_instance
def pr (mt:List Int):List (Int×Int):=((List.range mt.length).filter λb=>decide (0<=mt.getD b (-1))).map λb=>(mt.getD b (-1),(b:Int))
def ztY (n:Nat) (g:Int->Int->Bool) (used:List Bool) (x y:Int):Prop:=InR n x/\InR n y/\g x y=Od/\sb used y=Oc
theorem ziH {mt:List Int} {q:Int×Int}:q∈pr mt↔InR mt.length q.2/\0<=mb mt q.2/\q.1=mb mt q.2:=by
 unfold pr mb;simp only [List.mem_map,List.mem_filter,List.mem_range,decide_eq_true_eq];constructor
 . rintro ⟨b,⟨h1,h2⟩,rfl⟩
   exact ⟨⟨by simp only []; omega,by simp only []; omega⟩,by simpa using h2,by simp⟩
 . rintro ⟨⟨h0,h1⟩,h2,h3⟩
   refine ⟨q.2.toNat,⟨by omega,h2⟩, ?_⟩;have:((q.2.toNat:Nat):Int)=q.2:=J
   rw [this,← h3]
theorem zq8 (mt:List Int):((List.range mt.length).filter λb=>decide (0<=mt.getD b (-1))).length=zh4 mt:=by
 have h:mt=(List.range mt.length).map (λb=>mt.getD b (-1)):=by
  apply List.ext_getElem?;intro i;by_cases hi:i<mt.length
  . simp [hi,List.getD]
  . simp [hi,List.getElem?_eq_none (by omega:mt.length<=i)]
 unfold zh4
 conv=>rhs; rw [h]
 rw [List.countP_map,List.countP_eq_length_filter];rfl
theorem zhK (mt:List Int):(pr mt).length=zh4 mt:=by
 unfold pr;rw [List.length_map,zq8]
structure ztZ (n:Nat) (g:Int->Int->Bool) (used:List Bool) (mt:List Int):Prop where
 lm:mt.length=n
 rng:∀ b,InR n b->-1<=mb mt b/\mb mt b<n
 edge:∀ b,InR n b->0<=mb mt b->g (mb mt b) b=Od/\sb used b=Oc
 inj:∀ b b',InR n b->InR n b'->0<=mb mt b->mb mt b=mb mt b'->b=b'
section
variable {n:Nat} {g:Int->Int->Bool} {used:List Bool} {mt:List Int}
theorem zbb {A B:Type} {f:A->B}:∀ {l:List A},l.Nodup->(∀ x∈l,∀ y∈l,f x=f y->x=y)->(l.map f).Nodup
 | [],_,_=>List.nodup_nil
 | a::l,hn,h=>by
  have hn':=List.nodup_cons.1 hn;rw [List.map_cons,List.nodup_cons];refine ⟨λhm=>?_,zbb hn'.2 λx hx y hy=>h x (List.mem_cons_of_mem _ hx) y (List.mem_cons_of_mem _ hy)⟩;obtain ⟨y,hy,e⟩:=List.mem_map.1 hm;have:=h a List.mem_cons_self y (List.mem_cons_of_mem _ hy) e.symm;subst this;exact hn'.1 hy
theorem ztZ.isM (h:ztZ n g used mt):IsM (ztY n g used) (pr mt):=by
 have hl:=h.lm;have hb:∀ b∈(List.range mt.length).filter (λb=>decide (0<=mt.getD b (-1))),InR n (b:Int)/\0<=mb mt b:=λb hb=>by
  have:=List.mem_filter.1 hb;have h1:=List.mem_range.1 this.1;exact ⟨⟨by omega,by omega⟩,by unfold mb; simpa using this.2⟩
 have hn:((List.range mt.length).filter (λb=>decide (0<=mt.getD b (-1)))).Nodup:=List.nodup_range.filter _;refine ⟨λq hq=>?_, ?_, ?_⟩
 . obtain ⟨h1,h2,h3⟩:=ziH.1 hq;rw [hl] at h1;rw [h3];have:=h.rng q.2 h1;exact ⟨⟨h2,this.2⟩,h1,(h.edge q.2 h1 h2).1,(h.edge q.2 h1 h2).2⟩
 . unfold pr;rw [List.map_map];refine zbb hn λx hx y hy e=>?_;have:=h.inj x y (hb x hx).1 (hb y hy).1 (hb x hx).2 (by unfold mb; simpa using e);omega
 . unfold pr;rw [List.map_map];refine zbb hn λx hx y hy e=>?_;have:((x:Nat):Int)=(y:Nat):=e;omega
theorem zvH {f:Int} {a:Int} {o:Bool×List Bool×List Int} (hu:used.length=n) (ha:InR n a) (hfa:f<=a) (h:ztZ n g used mt) (hm:Most (ztY n g used) (λx=>f<=x/\x<a) (pr mt)) (ho:ziG n g a used (List.replicate n Oc) mt o) :
    ztZ n g used o.2.2/\Most (ztY n g used) (λx=>f<=x/\x<a+1) (pr o.2.2)/\zh4 o.2.2=zh4 mt+(if o.1 then 1 else 0):=by
  have hsr:∀ b,sb (List.replicate n Oc) b=Oc:=λb=>by
    unfold sb;simp only [List.getD,List.getElem?_replicate];split<;>rfl
  have hl:=h.lm;have hol:=ho.lm;have hset:∀ l,Most (ztY n g used) (λx=>(f<=x/\x<a)\/x=a) l->Most (ztY n g used) (λx=>f<=x/\x<a+1) l:=λl hl=>⟨hl.m,λq hq=>by have:=hl.a q hq; omega,λl' h1 h2=>hl.most l' h1 λq hq=>by have:=h2 q hq; omega⟩;cases ht:o.1 with
  | false=>
    obtain ⟨q1,q2,q3⟩:=ho.no ht;rw [q1];refine ⟨h,hset _ ?_,by simp⟩;refine ztA hm (λb=>InR n b/\sb o.2.1 b=Od) (λx=>x=a\/∃ b,InR n b/\sb o.2.1 b=Od/\mb mt b=x) (hk:=.inl rfl) ?_ ?_
    · rintro x b (rfl | ⟨b1,h1,h2,rfl⟩) he
      · exact ⟨he.2.1,q2 b he.2.1 he.2.2.1 he.2.2.2⟩
      · exact ⟨he.2.1,(q3 b1 h1 h2 (hsr b1)).2 b he.2.1 he.2.2.1 he.2.2.2⟩
    · rintro b ⟨h1,h2⟩
      exact ⟨mb mt b,ziH.2 ⟨by rw [hl]; exact h1,(q3 b h1 h2 (hsr b)).1,rfl⟩,.inr ⟨b,h1,h2,rfl⟩⟩
  | true=>
    obtain ⟨y1,y2,y3,y4⟩:=ho.yes ht;have hok:ztZ n g used o.2.2:=⟨ho.lm,ho.rng,ho.edge,λb b' hb hb'=>y2 b b' hb hb' (hsr b) (hsr b')⟩;refine ⟨hok,hset _ (ztz hm hok.isM (λq hq=>?_) (by rw [zhK,zhK,y4])),by simp [y4]⟩;obtain ⟨h1,h2,h3⟩:=ziH.1 hq;rw [hol] at h1;rcases y3 q.2 h1 (hsr _) h2 with h4 | ⟨b1,k1,_,k2⟩
    · exact .inr (h3.trans h4)
    · refine .inl ?_;have:=hm.a (mb mt b1,b1) (ziH.2 ⟨by rw [hl]; exact k1,by simp only []; omega,rfl⟩);simp only [] at this;omega
end
end Go.Ai.Sx