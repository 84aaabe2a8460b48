/- Service: the law of offsets that keep connections. -/
import Derived.Test.YtppebpagcocogaaGreatU15
import Derived.KernelRfl
set_option linter.unusedSimpArgs false
set_option linter.unusedVariables false
set_option linter.unusedSectionVars false
namespace Go.Ai.Sx
open Option renaming bind->Zb,bind_some->Zs
theorem zkz {ok:List Int->Bool} {f:List Int->Int->zo8} {pre:List Int} {h:Int} {o:List Int} {t':Int}:∀ (r:Nat) (t:Int),(r:Int)<=h->lpS ok f pre h r t=.found o t'->∃ x t1,(0<=x/\x<h)/\ok (pre++[x])=true/\f (pre++[x]) t1=.found o t'
 | 0,t,_,e=>by rw [lpS] at e; cases e
 | r+1,t,hr,e=>by
  rw [lpS] at e;by_cases h1:t=100000
  ·rw [if_pos h1] at e; cases e
  rw [if_neg h1] at e;cases hok:ok (pre++[h-((r+1:Nat):Int)]) with
  | false=>
   rw [hok] at e;exact zkz r (t+1) (by omega) e
  | true=>
   rw [hok,if_pos rfl] at e;cases hf:f (pre++[h-((r+1:Nat):Int)]) (t+1) with
   | found o2 t2=>rw [hf] at e; exact ⟨_,t+1,by omega,hok,hf.trans e⟩
   | no t2=>rw [hf] at e; exact zkz r t2 (by omega) e
   | over=>rw [hf] at e; cases e
theorem zv4 {ok:List Int->Bool} {f:List Int->Int->zo8} {pre:List Int} {h:Int} {t':Int}:∀ (r:Nat) (t:Int),lpS ok f pre h r t=.no t'->∀ x,h-r<=x->x<h->ok (pre++[x])=false\/∃ t1 t2,f (pre++[x]) t1=.no t2
 | 0,t,_,x,h1,h2=>by omega
 | r+1,t,e,x,hx1,hx2=>by
  rw [lpS] at e;by_cases h1:t=100000
  . rw [if_pos h1] at e; cases e
  rw [if_neg h1] at e;by_cases hx:x=h-((r+1:Nat):Int)
  . subst hx;cases hok:ok (pre++[h-((r+1:Nat):Int)]) with
    | false=>exact .inl rfl
    | true=>
     rw [hok,if_pos rfl] at e;cases hf:f (pre++[h-((r+1:Nat):Int)]) (t+1) with
     | found o2 t2=>rw [hf] at e; cases e
     | no t2=>exact .inr ⟨t+1,t2,hf⟩
     | over=>rw [hf] at e; cases e
  . cases hf:(if ok (pre++[h-((r+1:Nat):Int)]) then f (pre++[h-((r+1:Nat):Int)]) (t+1) else .no (t+1)) with
    | found o2 t2=>rw [hf] at e; cases e
    | no t2=>rw [hf] at e; exact zv4 r t2 e x (by omega) hx2
    | over=>rw [hf] at e; cases e
theorem zkA {ok:List Int->Bool} {h:Int} (hh:0<=h) {o:List Int} {t':Int}:∀ (k:Nat) (pre:List Int) (t:Int),srS ok h k pre t=.found o t'->o.length=pre.length+k/\o.take pre.length=pre/\(∀ j,pre.length<=j->j<o.length->0<=o.getD j 0/\o.getD j 0<h)/\∀ j,pre.length<j->j<=o.length->ok (o.take j)=true
 | 0,pre,t,e=>by
  rw [srS] at e;cases e;exact ⟨rfl,List.take_length,λj h1 h2=>by omega,λj h1 h2=>by omega⟩
 | k+1,pre,t,e=>by
  rw [srS] at e;obtain ⟨x,t1,hx,hok,hf⟩:=zkz _ _ (by omega) e;obtain ⟨a1,a2,a3,a4⟩:=zkA hh k _ _ hf;rw [List.length_append,List.length_singleton] at a1 a2 a3 a4;have a5:o[pre.length]?=some x:=by
   have:=congrArg (λl=>l[pre.length]?) a2;simpa [List.getElem?_take] using this
  refine ⟨by omega, ?_,λj h1 h2=>?_,λj h1 h2=>?_⟩
  ·have:=congrArg (λl=>l.take pre.length) a2;simpa [List.take_take] using this
  ·by_cases hj:j=pre.length
   ·subst hj;rw [show o.getD pre.length 0=x by simp [List.getD,a5]];exact hx
   ·exact a3 j (by omega) h2
  ·by_cases hj:j=pre.length+1
   ·subst hj;rw [a2]; exact hok
   ·exact a4 j (by omega) h2
theorem zv5 {ok:List Int->Bool} {h:Int} (hh:0<=h) {t':Int} (o:List Int):∀ (k:Nat) (pre:List Int) (t:Int),(∃ t',srS ok h k pre t=.no t')->o.length=pre.length+k->o.take pre.length=pre->(∀ j,pre.length<=j->j<o.length->0<=o.getD j 0/\o.getD j 0<h)->∃ j,pre.length<j/\j<=o.length/\ok (o.take j)=false
 | 0,pre,t,e,_,_,_=>by
  obtain ⟨t',e⟩:=e;rw [srS] at e;cases e
 | k+1,pre,t,e,hl,htk,hb=>by
  obtain ⟨t',e⟩:=e;rw [srS] at e;have hx:=hb pre.length (by omega) (by omega);have e2:o.take (pre.length+1)=pre++[o.getD pre.length 0]:=by
   rw [List.take_add_one,htk];simp [List.getD,show pre.length<o.length by omega]
  rcases zv4 _ _ e (o.getD pre.length 0) (by omega) hx.2 with h1 | ⟨t1,t2,h1⟩
  ·exact ⟨pre.length+1,by omega,by omega,by rw [e2]; exact h1⟩
  ·obtain ⟨j,j1,j2,j3⟩:=zv5 hh (t':=t') o k _ _ ⟨_,h1⟩ (by rw [List.length_append,List.length_singleton]; omega) (by rw [List.length_append,List.length_singleton]; exact e2) (λj h1 h2=>by
    rw [List.length_append,List.length_singleton] at h1;exact hb j (by omega) h2)
   rw [List.length_append,List.length_singleton] at j1;exact ⟨j,by omega,j2,j3⟩
def zyi:zo8->List Int×Int
 | .found o _=>(o,0)
 | .no _=>([],4)
 | .over=>([],8)
def lnB (p:Plan) (ls:List Line) (h:Int):Bool:=(inB (zm ls) 1 20&&(List.range ls.length).all λi=>zat p&&zdB p (ls.getD i L0))&&inB h 30 7200
def s7 (ls:List Line) (h:Int):Service:=(ls,List.replicate ls.length h,z7 ls.length,())
theorem ztf {ls:List Line} {h:Int} {i:Nat} (hi:i<ls.length):hd0 (s7 ls h) i=h:=by
 unfold hd0 s7;simp [List.getD,hi]
theorem zAE {ls:List Line} {h:Int} {i:Nat}:of0 (s7 ls h) i=0:=zqN _ _
theorem ztg {p:Plan} {ls:List Line} {h:Int}:zqL p (s7 ls h)=lnB p ls h:=by
 unfold zqL lnB;rw [show (s7 ls h).1=ls from rfl,show (s7 ls h).2.1.length=ls.length from List.length_replicate,show (s7 ls h).2.2.1.length=ls.length from List.length_replicate,decide_eq_true rfl,Bool.true_and,Bool.true_and];cases hi:inB (zm ls) 1 20 with
 | false=>simp
 | true=>
 have hi:=zI.1 hi;rw [zp] at hi;rw [Bool.eq_iff_iff];simp only [Bool.true_and,Bool.and_eq_true,List.all_eq_true,List.mem_range];constructor
 . rintro ⟨h1,h2⟩
   refine ⟨λi hi=>⟨h1,(h2 i hi).1⟩, ?_⟩;have:=(h2 0 (by omega)).2;unfold hoB at this;rw [ztf (by omega),Bool.and_eq_true] at this;exact this.1
 . rintro ⟨h1,h2⟩
   refine ⟨(h1 0 (by omega)).1,λi hi=>⟨(h1 i hi).2, ?_⟩⟩;unfold hoB;have h3:=zI.1 h2;rw [ztf hi,zAE,h2,Bool.true_and];exact zI.2 (by omega)
theorem zx8 {p:Plan} {ls:List Line} {h:Int} (hl:ls.length<=9223372036854775807) (hI:∀ i,i<ls.length->zmz p (ls.getD i L0)):ztv p (s7 ls h):=
 ⟨hl,by show (List.replicate _ _).length<=_; rw [List.length_replicate]; exact hl,hI⟩
theorem zzp {ls:List Line} {h:Int} (hl:1<=ls.length):evL (s7 ls h).2.1=true:=by
 unfold evL;rw [Bool.not_eq_true',List.any_eq_false];intro x hx;have h1:(s7 ls h).2.1.getD 0 0=h:=ztf (i:=0) (by omega);rw [h1,List.eq_of_mem_replicate hx];simp
theorem zzq {p:Plan} {ls:List Line} {h:Int} {l:List Connection}:zvZ (zkQ p ls h l):=by
 unfold zkQ;split
 . exact znZ _ _ _ (by omega)
 . exact ⟨by omega,by omega⟩
theorem zqb {p:Plan} {ls:List Line} {h:Int} (hI:∀ i,i<ls.length->zmz p (ls.getD i L0)) (hB:lnB p ls h=true):(1<=ls.length/\ls.length<=20)/\(∀ i,i<ls.length->zsZ p (ls.getD i L0))/\30<=h/\h<=7200:=by
 unfold lnB at hB;simp only [Bool.and_eq_true,List.all_eq_true,List.mem_range] at hB;obtain ⟨⟨h1,h2⟩,h3⟩:=hB;have h1:=zI.1 h1;rw [zp] at h1;exact ⟨by omega,λi hi=>zvj (hI i hi) (h2 i hi).1 (h2 i hi).2,zI.1 h3⟩
theorem ziQ {p:Plan} {ls:List Line} {h:Int} {l:List Connection} (hI:∀ i,i<ls.length->zmz p (ls.getD i L0)) (hll:l.length<=1000000) :
 zbv p ls h l=some (if (lnB p ls h&&zgh ls l)=true then zyi (zkQ p ls h l) else ([],2)):=by
 unfold zbv;rw [zp7 hI,Zs];cases hA:(inB (zm ls) 1 20&&(List.range ls.length).all λi=>zat p&&zdB p (ls.getD i L0)) with
 | false=>unfold lnB; rw [hA]; rfl
 | true=>
 simp only [if_true,Bool.not_true,cond_false,zhw,Zs];cases hB:inB h 30 7200 with
 | false=>unfold lnB; rw [hA,hB]; rfl
 | true=>
 have hL:lnB p ls h=true:=by unfold lnB; rw [hA,hB]; rfl
 obtain ⟨hn,hK,hh⟩:=zqb hI hL;simp only [Bool.not_true,cond_false,zgi hn hK l (by omega),Zs,hL,Bool.true_and];cases hC:zgh ls l with
 | false=>rfl
 | true=>
 have hC2:l.all (cnB ls)=true:=by unfold zgh at hC; rw [Bool.and_eq_true] at hC; exact hC.1
 simp only [Bool.not_true,cond_false,if_true];have hN:zm ls=(ls.length:Int):=zp ls;rw [zme (by rw [hN]; omega),Zs,hN,Int.toNat_natCast,show List.replicate ls.length (0:Int)=z7 ls.length from rfl];have hr:=zx6 hn hK hh hC2 hll (ls.length-1) [0] (z7 ls.length) 0 big (by rw [List.length_singleton]; omega) (by rw [List.length_singleton]; omega) (zte hn hh) (by omega) (by simp only [big]; omega);rw [show (([0]:List Int).length:Int)=1 from rfl] at hr;rw [show (if okP p ls h l [0] then srS (okP p ls h l) h (ls.length-1) [0] 0 else .no 0)=zkQ p ls h l from rfl] at hr;obtain ⟨y,e1,e2⟩:=hr;rw [e1,Zs];revert e2;cases zkQ p ls h l with
 | found o t=>intro e; rw [show y=_ from e]; rfl
 | no t=>rintro ⟨now',e,_⟩; rw [e]; rfl
 | over=>intro e; rw [show y=_ from e]; rfl
theorem zo9 {p:Plan} {ls:List Line} {h:Int} {l:List Connection} (hI:∀ i,i<ls.length->zmz p (ls.getD i L0)) (hL:lnB p ls h=true) (hC2:l.all (cnB ls)=true) (hll:l.length<=1000) :
    zdc p ls h l=some (zyi (zkQ p ls h l)):=by
  obtain ⟨hn,hK,hh⟩:=zqb hI hL;have V:zvW p (s7 ls h):=zx1 (by rw [ztg]; exact hL);have H:ztv p (s7 ls h):=zx8 (by omega) hI;have he:=zzp (ls:=ls) (h:=h) hn.1;have h0:hd0 (s7 ls h) 0=h:=ztf (by omega);unfold zdc;have k1:=zbn (f:=λs8:Int×List Int=>
cond (decide (s8.1<(zm ls))) (Zb (zdp 8 s8.2 ([h])) λx11=>
some (.inl ((w64 (s8.1+1)),x11))) (some (.inr s8.2))) (λk=>((k:Int),List.replicate k h)) ls.length (λ_=>true) [] (List.replicate ls.length h) (s0:=(0,[])) rfl (by simp only [big]; omega) (λi hi=>by
      simp only [zF hi,cond_true,if_true];rw [zaF (by rw [List.length_replicate]; simp; omega),Zs,zy (by omega),List.replicate_succ']) (by simp only [zG,cond_false])
  rw [k1,Zs,if_pos (by simp)];have hN:zm ls=(ls.length:Int):=zp ls;have hmk:mkO 8 (zm ls) (0:Int)=some (z7 ls.length):=by
    rw [zme (by rw [hN]; omega),hN,Int.toNat_natCast]; rfl
  rw [hmk,Zs,show ((ls,List.replicate ls.length h,z7 ls.length,()):Service)=s7 ls h from rfl];have k2:=zbn (f:=λs35:List Int×Int=>
cond (decide (s35.2<(zm l))) (Zb (idx l s35.2) λx42=>
Zb (zcQ p (s7 ls h) x42) λy43=>
Zb (zdp 8 s35.1 ([y43])) λx44=>
some (.inl (x44,(w64 (s35.2+1))))) (some (.inr s35.1))) (λk=>((l.map (zcG p ls h (z7 ls.length))).take k,(k:Int))) l.length (λ_=>true) [] (l.map (zcG p ls h (z7 ls.length))) (s0:=([],0)) rfl (by simp only [big]; omega) (λi hi=>by
      have hcc:cnB ls (l.getD i C0)=true:=by
        rw [show l.getD i C0=l[i] by simp [List.getD,hi]];exact List.all_eq_true.1 hC2 _ (List.getElem_mem hi)
      simp only [zF hi,cond_true,if_true,zn C0 hi,Zs];have hrl:=znY V H he (c:=l.getD i C0) hcc;rw [h0,show (s7 ls h).1=ls from rfl,show (s7 ls h).2.2.1=z7 ls.length from rfl] at hrl;rw [hrl,Zs,zaF (by rw [List.length_take,List.length_map]; simp; omega),Zs,zy (by omega)];rw [List.take_add_one,List.getElem?_map,List.getElem?_eq_getElem hi,show l.getD i C0=l[i] by simp [List.getD,hi]];rfl) (by
      simp only [zG,cond_false];rw [List.take_of_length_le (by rw [List.length_map]; omega)])
  rw [k2,Zs,if_pos (by simp)];obtain ⟨y,e1,e2⟩:=zx7 hn hK hh hC2 (show l.length<=1000000 by omega) (fuel:=big) (by simp only [big]; omega);rw [Zs,e1,Zs];have hb:=zzq (p:=p) (ls:=ls) (h:=h) (l:=l);revert hb;revert e2;cases zkQ p ls h l with
  | found o t=>
    intro e hb;have hb2:0<=t/\t<=100000:=hb;rw [show y=_ from e];simp only [];rw [decide_eq_false (show ¬ t>100000 by omega)]; rfl
  | no t=>
    rintro ⟨now',e,_⟩ hb
    have hb2:0<=t/\t<=100000:=hb;rw [e];simp only [];rw [decide_eq_false (show ¬ t>100000 by omega)]; rfl
  | over=>rintro ⟨now',e⟩ _; rw [e]; rfl
theorem zx9 {p:Plan} {ls:List Line} {h:Int} {l:List Connection} (hn:1<=ls.length/\ls.length<=20) (hh:0<=h):(zyi (zkQ p ls h l)).1.length<=1000000:=by
 cases e:zkQ p ls h l with
 | found o t=>
  unfold zkQ at e;split at e
  . have:=(zkA hh _ _ _ e).1;show o.length<=_;rw [List.length_singleton] at this;omega
  . cases e
 | no t=>show 0<=1000000; omega
 | over=>show 0<=1000000; omega
theorem zn0 (hk:zX=some true) (p:Plan) (ls:List Line) (h:Int) (l:List Connection) (hs:ls.length<=9223372036854775807):za6 p ls h l=some true:=by
  unfold za6;obtain ⟨b,e,q⟩:=zs4 p (ls,[],[],()) hs;rw [e,Zs,hk];obtain ⟨c6,g1,g2⟩:∃ c6,(cond (!b) (some true) (cond (decide (zm l>5)) (some true) (cond (decide (h>90)) (some (decide (h<=7200))) (some false))))=some c6/\(c6=false->b=true/\l.length<=5):=by
    cases b with
    | false=>exact ⟨true,rfl,λh=>by cases h⟩
    | true=>
      by_cases h5:zm l>5
      · rw [decide_eq_true h5]; exact ⟨true,rfl,λh=>by cases h⟩
      · rw [decide_eq_false h5];rw [zp] at h5;cases decide (h>90)
        · exact ⟨false,rfl,λ_=>⟨rfl,by omega⟩⟩
        · exact ⟨_,rfl,λ_=>⟨rfl,by omega⟩⟩
  rw [g1,Zs];cases c6 with
  | true=>rfl
  | false=>
  obtain ⟨hb,hl5⟩:=g2 rfl;have F:=q hb;have hl3:ls.length<=3:=F.n;have hI:∀ i,i<ls.length->zmz p (ls.getD i L0):=λi hi=>F.sv.l i hi;have H:=zx8 (h:=h) hs hI;rw [cond_false,ziQ hI (by omega),Zs];have k1:=zbn (f:=λs32:Int×List Int×List Int=>
cond (decide (s32.1<(zm ls))) (Zb (zdp 8 s32.2.2 ([h])) λx39=>
Zb (zdp 8 s32.2.1 ([0])) λx41=>
some (.inl ((w64 (s32.1+1)),x41,x39))) (some (.inr (s32.2.2,s32.2.1)))) (λk=>((k:Int),z7 k,List.replicate k h)) ls.length (λ_=>true) ([],[]) (List.replicate ls.length h,z7 ls.length) (s0:=(0,[],[])) rfl (by simp only [big]; omega) (λi hi=>by
      simp only [zF hi,cond_true,if_true];rw [zaF (by rw [List.length_replicate]; simp; omega),Zs,zaF (by unfold z7; rw [List.length_replicate]; simp; omega),Zs,zy (by omega)];unfold z7;rw [List.replicate_succ',List.replicate_succ']) (by simp only [zG,cond_false])
  rw [k1,Zs,if_pos (by simp)];simp only [];rw [show ((ls,List.replicate ls.length h,z7 ls.length,()):Service)=s7 ls h from rfl,zkv H,Zs,ztg];cases hL:lnB p ls h with
  | false=>rfl
  | true=>
  obtain ⟨hn,hK,hh⟩:=zqb hI hL;simp only [Bool.not_true,cond_false,Bool.true_and,znX hn hK l (by omega),Zs];cases hC:zgh ls l with
  | false=>rfl
  | true=>
  have hC2:l.all (cnB ls)=true:=by unfold zgh at hC; rw [Bool.and_eq_true] at hC; exact hC.1
  simp only [Bool.not_true,cond_false,if_true,zo9 hI hL hC2 (by omega),Zs,beq_self_eq_true,cond_true,zx0 _ (zx9 (p:=p) (h:=h) (l:=l) hn (by omega))]
end Go.Ai.Sx
/- Service: the examples of the chapter. -/
namespace Go.Ai.Sx
open Option renaming bind->Zb,bind_some->Zs
def sP (n:Int):Plan:=(([(((0,0,()),1,[((0,false,()):zl)],0,()):zcb),((((n,0,()):Spot),1,[((0,true,()):zl)],0,()):zcb)],[((0,1,[],8000,0,()):Rail)],()):Plan)
def sT:Train:=(1000,1000,8000,2000,2000,1000000,0,0,0,[1000],())
def sL (n:Int):Line:=(([((0,false,()):zM)],[1000,n/2,n],[0,20,0],()),([((0,true,()):zM)],[1000,n/2,n],[0,10,0],()),sT,0,30,())
theorem sl0:(zg4 (sP 21000) (sL 21000).1.1 sT 0 (sL 21000).1.2.1).map (·.map (·.1))=some [4400,4600]:=by kernel_rfl
theorem sl1:(zg4 (sP 21000) (sL 21000).2.1.1 sT 0 (sL 21000).2.1.2.1).map (·.map (·.1))=some [4400,4600]:=by kernel_rfl
theorem sv:zat (sP 21000)=true:=by kernel_rfl
theorem ss0:zeO (sP 21000) (sL 21000).1.1 sT 0 (sL 21000).1.2.1=true:=by kernel_rfl
theorem ss1:zeO (sP 21000) (sL 21000).2.1.1 sT 0 (sL 21000).2.1.2.1=true:=by kernel_rfl
theorem sc0:zvT (sP 21000) (sL 21000).1=true:=by kernel_rfl
theorem sc1:zvT (sP 21000) (sL 21000).2.1=true:=by kernel_rfl
theorem sw0:wlS (sP 21000) (sL 21000).1.1=21000:=by kernel_rfl
theorem sw1:wlS (sP 21000) (sL 21000).2.1.1=21000:=by kernel_rfl
theorem sI:zmz (sP 21000) (sL 21000):=⟨by decide,by decide,by decide,by decide,λ_ _=>by rw [sw0]; omega,λ_ _=>by rw [sw1]; omega⟩
theorem lg0:zp2 (sP 21000) (sL 21000) (sL 21000).1=some [4400,4600]:=by
 unfold zp2;rw [if_pos (show zeO (sP 21000) (sL 21000).1.1 (sL 21000).2.2.1 (sL 21000).2.2.2.1 (sL 21000).1.2.1=true from ss0)];exact sl0
theorem lg1:zp2 (sP 21000) (sL 21000) (sL 21000).2.1=some [4400,4600]:=by
 unfold zp2;rw [if_pos (show zeO (sP 21000) (sL 21000).2.1.1 (sL 21000).2.2.1 (sL 21000).2.2.2.1 (sL 21000).2.1.2.1=true from ss1)];exact sl1
theorem sr0:zid (sP 21000) (sL 21000) (sL 21000).1=some [4400,4600]:=by unfold zid; rw [if_pos sc0]; exact lg0
theorem sr1:zid (sP 21000) (sL 21000) (sL 21000).2.1=some [4400,4600]:=by unfold zid; rw [if_pos sc1]; exact lg1
theorem sm0:msC (sP 21000) (sL 21000) (sL 21000).1=[4400,4600]:=by unfold msC; rw [sr0]; rfl
theorem sm1:msC (sP 21000) (sL 21000) (sL 21000).2.1=[4400,4600]:=by unfold msC; rw [sr1]; rfl
theorem zqO:zdB (sP 21000) (sL 21000)=true:=by
 unfold zdB okC;rw [sr0,sr1];kernel_rfl
theorem zBz:zeP (sP 21000) (sL 21000) (sL 21000).1=30:=by unfold zeP; rw [sm0]; kernel_rfl
theorem zBA:zeP (sP 21000) (sL 21000) (sL 21000).2.1=20:=by unfold zeP; rw [sm1]; kernel_rfl
theorem srd:zkF (sP 21000) (sL 21000)=110:=by unfold zkF; rw [zBz,zBA]; rfl
theorem zn1:zcq 21000=some (sP 21000,sL 21000):=by kernel_rfl
theorem zth {p:Plan} {l:Line} (hs:zcq 21000=some (p,l)) (hR:zbK p l.1.1 l.2.2.1 0 l.1.2.1=some ([4400,4600],0)) (hO:zaK p l false=some ([0,25,30],0)) (hX:zaK p l true=some ([0,15,20],0)) (hN:zcy p l=some (110,0)) (hC:zbA p l 110=some (1,0)) (hD:zbA p l 109=some (2,0)):zX=some true:=by
 unfold zX;rw [hs,Zs];simp only [hR,hO,hX,hN,Zs];rw [show w64 (110-1)=109 from rfl];simp only [hC,hD,Zs];rfl
theorem kR:zbK (sP 21000) (sL 21000).1.1 (sL 21000).2.2.1 0 (sL 21000).1.2.1=some ([4400,4600],0):=by
 obtain ⟨e,h1,_⟩:=zBc (sP 21000) (sL 21000) (sL 21000).1 sI.w1 (by decide) (by rw [sw0]; omega);rw [lg0] at h1;exact h1
theorem kB {p:Plan} {l:Line} (hv:zat p=true) (hl:zdB p l=true):(zat p&&zdB p l)=true:=by rw [hv,hl]; rfl
theorem ko:zg5 (msC (sP 21000) (sL 21000) (sL 21000).1) (sL 21000).1=[0,25,30]:=by rw [sm0]; kernel_rfl
theorem kx:zg5 (msC (sP 21000) (sL 21000) (sL 21000).2.1) (sL 21000).2.1=[0,15,20]:=by rw [sm1]; kernel_rfl
theorem kO {p:Plan} {l:Line} (H:zmz p l) (hv:zat p=true) (hl:zdB p l=true) {home:Bool} {o:List Int} (h:zg5 (msC p l (zbS l home)) (zbS l home)=o):zaK p l home=some (o,0):=by
 rw [zvl H,if_pos (kB hv hl),h]
theorem kC {p:Plan} {l:Line} (H:zmz p l) (hv:zat p=true) (hl:zdB p l=true) {h c:Int} (hi:inB h 30 7200=true) (hc:(zkF p l+h-1)/h=c):zbA p l h=some (c,0):=by
 rw [zAA H,if_pos (by rw [kB hv hl,hi]; rfl)];unfold zks;rw [hc]
theorem zti:zX=some true:=
 zth zn1 kR (kO sI sv zqO ko) (kO sI sv zqO kx) (by rw [zzm sI,if_pos (kB sv zqO),srd]) (kC sI sv zqO rfl (by rw [srd]; rfl)) (kC sI sv zqO rfl (by rw [srd]; rfl))
end Go.Ai.Sx