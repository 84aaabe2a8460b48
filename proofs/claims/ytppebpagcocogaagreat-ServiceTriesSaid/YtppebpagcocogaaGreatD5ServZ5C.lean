/- Service: the search for offsets ends at its limit. -/
import Derived.Test.YtppebpagcocogaaGreatU16
set_option linter.unusedSimpArgs false
set_option linter.unusedVariables false
set_option linter.unusedSectionVars false
namespace Go.Ai.Sx
open Option renaming bind->Zb,bind_some->Zs
theorem zv7 {ok:List Int->Bool} {f:List Int->Int->zo8} {pre:List Int} {h:Int} (hf:∀ x,ok (pre++[x])=false):∀ (r:Nat) (t:Int),t<=100000->lpS ok f pre h r t=if t+r<=100000 then .no (t+r) else .over
 | 0,t,ht=>by
  rw [lpS,if_pos (by omega)];congr 1; omega
 | r+1,t,ht=>by
  rw [lpS];by_cases h1:t=100000
  . rw [if_pos h1,if_neg (by omega)]
  . rw [if_neg h1,hf];simp only [Bool.false_eq_true,if_false];rw [zv7 hf r (t+1) (by omega)];by_cases h2:t+1+(r:Int)<=100000
    . rw [if_pos h2,if_pos (by omega)];congr 1; omega
    . rw [if_neg h2,if_neg (by omega)]
theorem zv8 {ok:List Int->Bool} {f:List Int->Int->zo8} {pre:List Int} {h m:Int} (hm:0<=m) (ht:∀ x,ok (pre++[x])=true) (hf:∀ x t,t<=100000->f (pre++[x]) t=if t+m<=100000 then .no (t+m) else .over):∀ (r:Nat) (t:Int),t<=100000->lpS ok f pre h r t=if t+r*(1+m)<=100000 then .no (t+r*(1+m)) else .over
 | 0,t,h0=>by
  rw [lpS,show ((0:Nat):Int)*(1+m)=0 by simp,if_pos (by omega)];congr 1; omega
 | r+1,t,h0=>by
  have e:((r+1:Nat):Int)*(1+m)=r*(1+m)+(1+m):=by
   rw [show ((r+1:Nat):Int)=(r:Int)+1 by omega,Int.add_mul,Int.one_mul]
  have e0:0<=(r:Int)*(1+m):=Int.mul_nonneg (by omega) (by omega);rw [lpS,e];by_cases h1:t=100000
  ·rw [if_pos h1,if_neg (by omega)]
  ·rw [if_neg h1,ht];simp only [if_true];rw [hf _ _ (by omega)];by_cases h2:t+1+m<=100000
   ·rw [if_pos h2];simp only [];rw [zv8 hm ht hf r (t+1+m) (by omega)];rw [show t+1+m+(r:Int)*(1+m)=t+((r:Int)*(1+m)+(1+m)) by omega]
   ·rw [if_neg h2,if_neg (by omega)]
theorem ztn (hk:zX=some true) {p:Plan} {l:Line} (hs:zcq 21000=some (p,l)) (I:zmz p l) (hv:zat p=true) (hlb:zdB p l=true) (n0:(zbS l false).2.1.length=3) (n1:(zbS l true).2.1.length=3) (h:Int):zbR h=some true:=by
 unfold zbR;rw [hk];by_cases h1:h<30
 . rw [decide_eq_true h1]; rfl
 rw [decide_eq_false h1,cond_false,Zs];by_cases h2:h>400
 . rw [decide_eq_true h2]; rfl
 rw [decide_eq_false h2,cond_false,hs,Zs];have h0:∀ i,i<[l,l,l].length->[l,l,l].getD i L0=l:=λi hi=>by
  rcases i with _ | _ | _ | i
  . rfl
  . rfl
  . rfl
  . simp only [List.length_cons,List.length_nil] at hi; omega
 have hI:∀ i,i<[l,l,l].length->zmz p ([l,l,l].getD i L0):=λi hi=>by rw [h0 i hi]; exact I
 have hL:lnB p [l,l,l] h=true:=by
  unfold lnB;rw [zI.2 (show 1<=zm [l,l,l]/\zm [l,l,l]<=20 by rw [zp]; simp),zI.2 (by omega),Bool.true_and,Bool.and_true,List.all_eq_true];intro i hi;rw [h0 i (List.mem_range.1 hi),hv,hlb]; rfl
 have V:zvW p (s7 [l,l,l] h):=zx1 (by rw [ztg]; exact hL);have H:ztv p (s7 [l,l,l] h):=zx8 (by simp) hI;obtain ⟨hn,hK,hh⟩:=zqb hI hL;have he:=zzp (ls:=[l,l,l]) (h:=h) hn.1;have hcn:∀ m:Int,0<=m->m<=7200->cnB [l,l,l] (2,false,2,2,true,0,0,m,())=true:=λm m1 m2=>by
  unfold cnB zcF;show (inB 2 0 2&&(inB 2 0 2&&(inB 0 0 m&&(!decide (m>7200)&&(inB 2 1 (((zbS l false).2.1.length:Int)-1)&&inB 0 0 (((zbS l true).2.1.length:Int)-2))))))=true;rw [n0,n1,zI.2 (show (0:Int)<=0/\0<=m by omega),decide_eq_false (show ¬ m>7200 by omega)];decide
 have hw0:=zvq V H he (hcn 0 (by omega) (by omega));rw [ztf (by simp)] at hw0;have hwait:zeM p (([l,l,l],[h,h,h],[0,0,0],()):Service) ((2,false,2,2,true,0,0,0,()):Connection)=some (zcU p [l,l,l] h (z7 3) (2,false,2,2,true,0,0,0,())):=hw0;simp only [hwait,Zs];have hwb:=zkx hn hK hh (os:=z7 3) rfl (λi hi=>by rw [zqN]; omega) (hcn 0 (by omega) (by omega));have hwm:∀ (m:Int) (os:List Int),zcU p [l,l,l] h os (2,false,2,2,true,0,0,m,())=zcU p [l,l,l] h (z7 3) (2,false,2,2,true,0,0,0,()):=λm os=>by
  have hd:zcG p [l,l,l] h (z7 3) (2,false,2,2,true,0,0,m,())=zcG p [l,l,l] h (z7 3) (2,false,2,2,true,0,0,0,()):=by
   unfold zcG;simp only []
  unfold zcU;rw [zjy p [l,l,l] h os 3 (2,false,2,2,true,0,0,m,()),hd];simp only [];rw [show ∀ a b:Int,a+b-b=a from λa b=>by omega]
 revert hwb hwm;generalize zcU p [l,l,l] h (z7 3) (2,false,2,2,true,0,0,0,())=w;intro hwb hwm;have hwb:0<=w/\w<0+h:=hwb;cases hw:(w==0) with
 | true=>rfl
 | false=>
 have hw:w≠0:=λe=>by rw [e] at hw; cases hw
 rw [cond_false,zh (n:=w-1) (by omega) (by omega)];have hcw:=hcn (w-1) (by omega) (by omega);have hC:zgh [l,l,l] [(2,false,2,2,true,0,0,w-1,())]=true:=by
  unfold zgh;rw [List.all_cons,hcw,List.all_nil];show (true&&true&&decide ((1:Int)<=60))=true;decide
 rw [ziQ hI (by simp),hL,hC,Bool.and_true,if_pos rfl,Zs];have hok:∀ pre:List Int,pre.length≠3->okP p [l,l,l] h [(2,false,2,2,true,0,0,w-1,())] pre=true:=λpre hp=>by
  unfold okP;rw [List.all_cons,List.all_nil,Bool.and_true,show zed (2,false,2,2,true,0,0,w-1,())=2 from rfl,beq_eq_false_iff_ne.2 (by omega)];rfl
 have hno:∀ pre:List Int,pre.length=3->okP p [l,l,l] h [(2,false,2,2,true,0,0,w-1,())] pre=false:=λpre hp=>by
  unfold okP;rw [List.all_cons,List.all_nil,Bool.and_true,show zed (2,false,2,2,true,0,0,w-1,())=2 from rfl,hp,hwm];show (false||!decide (w>w-1))=false;rw [decide_eq_true (by omega)]; rfl
 have htop:zkQ p [l,l,l] h [(2,false,2,2,true,0,0,w-1,())]=if h+h*h<=100000 then .no (h+h*h) else .over:=by
  unfold zkQ;rw [hok [0] (by simp),if_pos rfl];show srS _ h 2 [0] 0=_;rw [srS,zv8 (m:=h) (by omega) (λx=>hok _ (by simp)) (λx t ht=>by
   rw [srS,zv7 (λy=>hno _ (by simp)) _ _ ht,show ((h.toNat:Nat):Int)=h by omega]) _ _ (by omega)]
  rw [show ((h.toNat:Nat):Int)=h by omega,Int.mul_add,Int.mul_one,Int.zero_add]
 have hsq:h*h<=160000/\0<=h*h:=⟨by
  have:=Int.mul_le_mul (show h<=400 by omega) (show h<=400 by omega) (by omega) (by omega);omega,Int.mul_nonneg (by omega) (by omega)⟩
 rw [htop,zh (n:=h*h) (by omega) (by omega),zh (n:=h+h*h) (by omega) (by omega)];by_cases hq:h+h*h<=100000
 . rw [if_pos hq,decide_eq_false (show ¬ h+h*h>100000 by omega)]; rfl
 . rw [if_neg hq,decide_eq_true (show h+h*h>100000 by omega)]; rfl
theorem sn0:(zbS (sL 21000) false).2.1.length=3:=by kernel_rfl
theorem sn1:(zbS (sL 21000) true).2.1.length=3:=by kernel_rfl
theorem zto (h:Int):zbR h=some true:=ztn zti zn1 sI sv zqO sn0 sn1 h
end Go.Ai.Sx