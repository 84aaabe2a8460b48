/- Service: the law of connections that are kept. -/
import Derived.Test.YtppebpagcocogaaGreatU16
set_option linter.unusedSimpArgs false
set_option linter.unusedVariables false
set_option linter.unusedSectionVars false
namespace Go.Ai.Sx
open Option renaming bind->Zb,bind_some->Zs
def zn5 (h a:Int) (os:List Int):List Int:=os.map λo=>(o+a)%h
theorem zkB {h a:Int} {os:List Int}:(zn5 h a os).length=os.length:=List.length_map _
theorem zlz {h a:Int} {os:List Int} {i:Nat} (hi:i<os.length):(zn5 h a os).getD i 0=(os.getD i 0+a)%h:=by
 unfold zn5;simp [List.getD,List.getElem?_map,hi]
theorem zqc {p:Plan} {ls:List Line} {h a:Int} {os:List Int} {c:Connection} (h1:0<=c.1/\c.1<os.length) (h2:0<=c.2.2.2.1/\c.2.2.2.1<os.length):zcU p ls h (zn5 h a os) c=zcU p ls h os c:=by
 unfold zcU;rw [zjy p ls h (zn5 h a os) ls.length c,zjy p ls h os ls.length c,zlz (by omega),zlz (by omega)];congr 1;generalize zcG p ls h (z7 ls.length) c=D;generalize os.getD c.2.2.2.1.toNat 0=x;generalize os.getD c.1.toNat 0=y;rw [Int.emod_def (x+a) h,Int.emod_def (y+a) h];rw [show D+(x+a-h*((x+a)/h))-(y+a-h*((y+a)/h))-c.2.2.2.2.2.2.1=D+x-y-c.2.2.2.2.2.2.1+h*((y+a)/h-(x+a)/h) by
  rw [Int.mul_sub]; omega]
 exact Int.add_mul_emod_self_left ..
def ztk (p:Plan) (ls:List Line) (h:Int) (os:List Int) (l:List Connection):Bool:=!(l.any λc=>decide (zcU p ls h os c>c.2.2.2.2.2.2.2.1))
theorem ztl {p:Plan} {ls:List Line} {h:Int} {os:List Int} {l:List Connection}:ztk p ls h os l=true↔∀ c,c∈l->zcU p ls h os c<=c.2.2.2.2.2.2.2.1:=by
 unfold ztk;rw [Bool.not_eq_true',List.any_eq_false];constructor
 . intro H c hc;have:=H c hc;simp only [decide_eq_true_eq] at this;omega
 . intro H c hc;have:=H c hc;simp only [decide_eq_true_eq];omega
theorem ztm {p:Plan} {ls:List Line} {h:Int} {l:List Connection} {pre:List Int}:okP p ls h l pre=true↔∀ c,c∈l->zed c=(pre.length:Int)-1->zcU p ls h pre c<=c.2.2.2.2.2.2.2.1:=by
 unfold okP;rw [List.all_eq_true];constructor
 . intro H c hc e;have:=H c hc;rw [e,beq_self_eq_true] at this;simp only [Bool.not_true,Bool.false_or,Bool.not_eq_true',decide_eq_false_iff_not] at this;omega
 . intro H c hc;by_cases e:zed c=(pre.length:Int)-1
   . have:=H c hc e;rw [decide_eq_false (by omega)];simp
   . rw [beq_eq_false_iff_ne.2 e];rfl
section
variable {p:Plan} {ls:List Line} {h:Int} {l:List Connection} (hh:30<=h/\h<=7200) (hc:l.all (cnB ls)=true) (hn:1<=ls.length)
include hh hc hn
theorem zqP {o:List Int} {t:Int} (e:zkQ p ls h l=.found o t):ztk p ls h o l=true/\o.length=ls.length/\∀ j,j<ls.length->0<=o.getD j 0/\o.getD j 0<=h-1:=by
 unfold zkQ at e;cases h0:okP p ls h l [0] with
 | false=>rw [h0] at e; cases e
 | true=>
 rw [h0,if_pos rfl] at e;obtain ⟨a1,a2,a3,a4⟩:=zkA (by omega) _ _ _ e;rw [List.length_singleton] at a1 a2 a3 a4;have hl:o.length=ls.length:=by omega
 refine ⟨ztl.2 λc hcm=>?_,hl,λj hj=>?_⟩
 . have C:=zkP (List.all_eq_true.1 hc c hcm);have c1:=C.f;have c2:=C.t;have hlen:(o.take ((zed c).toNat+1)).length=(zed c).toNat+1:=by rw [List.length_take]; unfold zed; omega
   have hok:okP p ls h l (o.take ((zed c).toNat+1))=true:=by
    by_cases hz:(zed c).toNat=0
    . rw [hz,a2]; exact h0
    . exact a4 _ (by omega) (by unfold zed; omega)
   have hw:=ztm.1 hok c hcm (by rw [hlen]; unfold zed; omega);rwa [← zjx (p:=p) (ls:=ls) (h:=h) (now:=o) (pre:=o.take ((zed c).toNat+1)) (by rw [hlen]) (by rw [hlen]; unfold zed; omega) (by rw [hlen]; unfold zed; omega)] at hw
 . by_cases hz:j=0
   . subst hz;have:=congrArg (λl=>l.getD 0 0) a2;rw [show o.getD 0 0=0 by
      have h1:=congrArg (λl=>l[0]?) a2;simp only [List.getElem?_take,if_pos (show 0<1 by omega)] at h1;simp [List.getD,h1]]
     omega
   . have:=a3 j (by omega) (by omega);omega
theorem zyc {t:Int} (e:zkQ p ls h l=.no t) {os:List Int} (hl:os.length=ls.length) (hb:∀ j,j<ls.length->0<=os.getD j 0/\os.getD j 0<=h-1):ztk p ls h os l=false:=by
 cases hk:ztk p ls h os l with
 | false=>rfl
 | true=>
 exfalso;have hk:=ztl.1 hk
 let o:=zn5 h (h-os.getD 0 0) os
 have hol:o.length=ls.length:=by show (zn5 _ _ _).length=_; rw [zkB]; exact hl
 have hw:∀ c,c∈l->zcU p ls h o c<=c.2.2.2.2.2.2.2.1:=λc hcm=>by
  have C:=zkP (List.all_eq_true.1 hc c hcm);have c1:=C.f;have c2:=C.t;rw [show zcU p ls h o c=_ from zqc (by omega) (by omega)];exact hk c hcm
 have h0:o.getD 0 0=0:=by
  rw [show o.getD 0 0=_ from zlz (by omega),show os.getD 0 0+(h-os.getD 0 0)=h by omega,Int.emod_self]
 have hok:∀ j,1<=j->j<=o.length->okP p ls h l (o.take j)=true:=λj h1 h2=>ztm.2 λc hcm he=>by
  have C:=zkP (List.all_eq_true.1 hc c hcm);have c1:=C.f;have c2:=C.t;have hlen:(o.take j).length=j:=by rw [List.length_take]; omega
  rw [hlen] at he;unfold zed at he;rw [← zjx (now:=o) (pre:=o.take j) (by rw [hlen]) (by rw [hlen]; omega) (by rw [hlen]; omega)];exact hw c hcm
 have htk:o.take 1=[0]:=by
  have:o[0]?=some 0:=by
   have hl0:0<o.length:=by omega
   rw [List.getElem?_eq_getElem hl0];rw [show o.getD 0 0=o[0] by simp [List.getD,hl0]] at h0;rw [h0]
  rw [show (1:Nat)=0+1 from rfl,List.take_add_one,this];rfl
 unfold zkQ at e;have h1:=hok 1 (by omega) (by omega);rw [htk] at h1;rw [h1,if_pos rfl] at e;obtain ⟨j,j1,j2,j3⟩:=zv5 (by omega) (t':=0) o _ [0] 0 ⟨_,e⟩ (by rw [List.length_singleton]; omega) (by rw [List.length_singleton]; exact htk) (λj h1 h2=>by
  rw [show o.getD j 0=_ from zlz (by omega)];exact ⟨Int.emod_nonneg _ (by omega),Int.emod_lt_of_pos _ (by omega)⟩)
 rw [List.length_singleton] at j1;rw [hok j (by omega) j2] at j3;cases j3
end
theorem zv6 {p:Plan} {s:Service} (V:zvW p s) (H:ztv p s) (he:evL s.2.1=true) {os:List Int} (hl:os.length=s.1.length) (hb:∀ j,j<s.1.length->0<=os.getD j 0/\os.getD j 0<=hd0 s 0-1):zvW p (s.1,s.2.1,os,())/\ztv p (s.1,s.2.1,os,()):=
 ⟨⟨V.v,V.n,V.h,hl,V.l,V.hb,λi hi=>by
  have h1:=hb i hi;have h2:=zx4 V H he hi;rw [show hd0 (s.1,s.2.1,os,()) i=hd0 s i from rfl,show of0 (s.1,s.2.1,os,()) i=os.getD i 0 from rfl,h2];exact h1⟩,⟨H.n,H.h,H.l⟩⟩
theorem zzr {p:Plan} {s:Service} (V:zvW p s):lnB p s.1 (hd0 s 0)=true:=by
 have hn:=V.n;unfold lnB;rw [zI.2 (show 1<=zm s.1/\zm s.1<=20 by rw [zp]; omega),zI.2 (V.hb 0 (by omega)),Bool.true_and,Bool.and_true,List.all_eq_true];intro i hi;rw [V.v,Bool.true_and];exact V.l i (List.mem_range.1 hi)
theorem zvu (hk:zX=some true) (p:Plan) (s:Service) (l:List Connection) (more:Int) (hs:s.1.length<=9223372036854775807):zb7 p s l more=some true:=by
  unfold zb7;obtain ⟨b,e,q⟩:=zs4 p s hs;rw [e,Zs,hk];cases b with
  | false=>rfl
  | true=>
  have F:=q rfl;have H:=F.sv;simp only [Bool.not_true,cond_false];by_cases h5:zm l>5
  · rw [decide_eq_true h5]; rfl
  rw [decide_eq_false h5,cond_false,zkv H,Zs];rw [zp] at h5;cases hB:zqL p s with
  | false=>rfl
  | true=>
  have V:=zx1 hB;have hn:=V.n;have hlh:=V.h;have hlo:=V.o;have h0:idx s.2.1 (0:Int)=some (hd0 s 0):=zn (l:=s.2.1) (i:=0) 0 (by omega);have hh:=V.hb 0 (by omega);simp only [Bool.not_true,cond_false,zvp s (by omega),Zs,h0];cases he:evL s.2.1 with
  | false=>rfl
  | true=>
  simp only [Bool.not_true,cond_false,znX hn (svK V H) l (by omega),Zs];by_cases h90:hd0 s 0>90
  · rw [decide_eq_true h90]; rfl
  rw [decide_eq_false h90,cond_false];cases hC:zgh s.1 l with
  | false=>rfl
  | true=>
  have hC2:l.all (cnB s.1)=true:=by unfold zgh at hC; rw [Bool.and_eq_true] at hC; exact hC.1
  simp only [Bool.not_true,cond_false];by_cases hm0:more<0
  · rw [decide_eq_true hm0]; rfl
  rw [decide_eq_false hm0,cond_false];by_cases hm1:more>7200
  · rw [decide_eq_true hm1]; rfl
  rw [decide_eq_false hm1,Zs,cond_false];rw [ziQ H.l (by omega),zzr V,hC,Bool.and_true,if_pos rfl,Zs,zqa V H l (by omega),he,hC,Bool.and_true,if_pos rfl,Zs];have hob:∀ j,j<s.1.length->0<=s.2.2.1.getD j 0/\s.2.2.1.getD j 0<=hd0 s 0-1:=λj hj=>by
    have h1:=V.ob j hj;rw [zx4 V H he hj] at h1;exact h1
  have hmov:=zv6 V H he (os:=zn5 (hd0 s 0) more s.2.2.1) (by rw [zkB]; exact hlo) (λj hj=>by
    rw [zlz (by omega)];have h1:=Int.emod_nonneg (s.2.2.1.getD j 0+more) (show hd0 s 0≠0 by omega);have h2:=Int.emod_lt_of_pos (s.2.2.1.getD j 0+more) (show 0<hd0 s 0 by omega);omega)
  have k1:=zbn (f:=λs63:Int×List Int=>
cond (decide (s63.1<(zm s.2.2.1))) (Zb (idx s.2.2.1 s63.1) λx70=>
Zb (zl5 (w64 (x70+more)) (hd0 s 0)) λx71=>
Zb (zdp 8 s63.2 ([x71])) λx72=>
some (.inl ((w64 (s63.1+1)),x72))) (some (.inr s63.2))) (λk=>((k:Int),(zn5 (hd0 s 0) more s.2.2.1).take k)) s.2.2.1.length (λ_=>true) [] (zn5 (hd0 s 0) more s.2.2.1) (s0:=(0,[])) rfl (by simp only [big]; omega) (λi hi=>by
      have h1:=hob i (by omega);have hx:(zn5 (hd0 s 0) more s.2.2.1)[i]?=some ((s.2.2.1.getD i 0+more)%hd0 s 0):=by
        have h2:=zlz (h:=hd0 s 0) (a:=more) hi;have h3:i<(zn5 (hd0 s 0) more s.2.2.1).length:=by rw [zkB]; exact hi
        rw [← h2,List.getElem?_eq_getElem h3];simp [List.getD,h3]
      simp only [zF hi,cond_true,if_true,zn 0 hi,Zs];rw [zh (n:=s.2.2.1.getD i 0+more) (by omega) (by omega)];unfold zl5;rw [if_neg (by omega),Zs,Int.tmod_eq_emod_of_nonneg (by omega),zaF (by rw [List.length_take,zkB]; simp; omega),Zs,zy (by omega),List.take_add_one,hx];rfl) (by
      simp only [zG,cond_false];rw [List.take_of_length_le (by rw [zkB]; omega)])
  rw [if_pos (by simp)] at k1;have k2:=zbn (f:=λs128:Int=>
cond (decide (s128<(zm l))) (Zb (idx l s128) λx133=>
Zb (za0 p s x133) λy134=>
Zb (idx l s128) λx137=>
Zb (za0 p (s.1,s.2.1,zn5 (hd0 s 0) more s.2.2.1,()) x137) λy138=>
cond (y134.2 !=0) (some (.inr (.inr false))) (cond (y138.2 !=0) (some (.inr (.inr false))) (cond (y134.1 !=y138.1) (some (.inr (.inr false))) (Zb (idx l s128) λx151=>
cond (decide (y134.1<x151.2.2.2.2.2.2.1)) (some (.inr (.inr false))) (Zb (idx l s128) λx154=>
cond (decide (y134.1>=(w64 (x154.2.2.2.2.2.2.1+(hd0 s 0))))) (some (.inr (.inr false))) (some (.inl (w64 (s128+1))))))))) (some (.inr (.inl ():Unit⊕Bool)))) (λk=>(k:Int)) l.length (λ_=>true) (.inr false) (.inl ()) (s0:=0) rfl (by simp only [big]; omega) (λi hi=>by
      have hcc:cnB s.1 (l.getD i C0)=true:=by
        rw [show l.getD i C0=l[i] by simp [List.getD,hi]];exact List.all_eq_true.1 hC2 _ (List.getElem_mem hi)
      have C:=zkP hcc;have c1:=C.f;have c2:=C.t;have c3:=C.l;have c4:=C.m;have hw:=zkx hn (svK V H) hh hlo (zqM V H) hcc;have w1:=zta V H (l.getD i C0);have w2:=zta hmov.1 hmov.2 (l.getD i C0);rw [he,hcc,Bool.and_true,if_pos rfl] at w1;rw [show evL (s.1,s.2.1,zn5 (hd0 s 0) more s.2.2.1,()).2.1=true from he,show cnB (s.1,s.2.1,zn5 (hd0 s 0) more s.2.2.1,()).1 (l.getD i C0)=true from hcc,Bool.and_true,if_pos rfl] at w2;rw [show hd0 (s.1,s.2.1,zn5 (hd0 s 0) more s.2.2.1,()) 0=hd0 s 0 from rfl] at w2;rw [zqc (os:=s.2.2.1) (by omega) (by omega)] at w2;simp only [zF hi,cond_true,if_true,zn C0 hi,Zs,w1,w2,bne_self_eq_false,cond_false,zy (show i<9223372036854775807 by omega)];rw [zh (n:=(l.getD i C0).2.2.2.2.2.2.1+hd0 s 0) (by omega) (by omega),decide_eq_false (show ¬ zcU p s.1 (hd0 s 0) s.2.2.1 (l.getD i C0)<(l.getD i C0).2.2.2.2.2.2.1 by omega),decide_eq_false (show ¬ zcU p s.1 (hd0 s 0) s.2.2.1 (l.getD i C0)>=(l.getD i C0).2.2.2.2.2.2.1+hd0 s 0 by omega)];rfl) (by simp only [zG,cond_false])
  rw [if_pos (by simp)] at k2;cases ht:zkQ p s.1 (hd0 s 0) l with
  | no t=>
    have hkf:zx5 p s l=false:=zyc hh hC2 hn.1 ht hlo hob;simp only [zyi,hkf];rw [show ((0:Int)!=0)=false from rfl,show ((4:Int)==4)=true from rfl,show ((4:Int)==0)=false from rfl];simp only [cond_false,cond_true,Zs,k1,k2,zaG]
  | over=>
    simp only [zyi];rw [show ((0:Int)!=0)=false from rfl,show ((8:Int)==4)=false from rfl,show ((8:Int)==0)=false from rfl];simp only [cond_false,cond_true,Zs,k1,k2,zaG]
  | found o t=>
    obtain ⟨f1,f2,f3⟩:=zqP hh hC2 hn.1 ht;obtain ⟨V2,H2⟩:=zv6 V H he f2 f3;have hK2:=zqa V2 H2 l (by omega);rw [show evL (s.1,s.2.1,o,()).2.1=true from he,show zgh (s.1,s.2.1,o,()).1 l=true from hC,Bool.and_true,if_pos rfl,show zx5 p (s.1,s.2.1,o,()) l=true from f1] at hK2;simp only [zyi];rw [show ((0:Int)!=0)=false from rfl,show ((0:Int)==4)=false from rfl,show ((0:Int)==0)=true from rfl];simp only [cond_false,cond_true,Zs,hK2,k1,k2,zaG,bne_self_eq_false,Bool.not_true]
end Go.Ai.Sx