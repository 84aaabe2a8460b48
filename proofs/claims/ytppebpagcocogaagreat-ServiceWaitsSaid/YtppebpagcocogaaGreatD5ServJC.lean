/- Service: the law of waits. -/
import Derived.Test.YtppebpagcocogaaGreatS15
set_option linter.unusedSimpArgs false
set_option linter.unusedVariables false
set_option linter.unusedSectionVars false
namespace Go.Ai.Sx
open Option renaming bind->Zb,bind_some->Zs
def zqC (p:Plan) (l:Line) (home:Bool) (h o:Int) (k:Nat):Int:=zfG p l home h o+zdE (msC p l (zI l home)) (zI l home) k-dwl (zI l home) k
def zqD (p:Plan) (l:Line) (home:Bool) (h o:Int) (k:Nat):Int:=zfG p l home h o+zdE (msC p l (zI l home)) (zI l home) k
def zjc (p:Plan) (ls:List Line) (h:Int) (os:List Int) (c:Connection):Int:=zqD p (ls.getD c.2.2.2.1.toNat L0) c.2.2.2.2.1 h (os.getD c.2.2.2.1.toNat 0) c.2.2.2.2.2.1.toNat-zqC p (ls.getD c.1.toNat L0) c.2.1 h (os.getD c.1.toNat 0) c.2.2.1.toNat
def ziO (p:Plan) (ls:List Line) (h:Int) (os:List Int) (c:Connection):Int:=c.2.2.2.2.2.2.1+(zjc p ls h os c-c.2.2.2.2.2.2.1)%h
structure zBp (ls:List Line) (c:Connection):Prop where
 f:0≤c.1∧c.1<ls.length
 t:0≤c.2.2.2.1∧c.2.2.2.1<ls.length
 l:0≤c.2.2.2.2.2.2.1∧c.2.2.2.2.2.2.1≤c.2.2.2.2.2.2.2.1
 m:c.2.2.2.2.2.2.2.1≤7200
 fs:1≤c.2.2.1∧c.2.2.1≤zcY ls c.1 c.2.1-1
 ts:0≤c.2.2.2.2.2.1∧c.2.2.2.2.2.1≤zcY ls c.2.2.2.1 c.2.2.2.2.1-2
theorem zve {ls:List Line} {c:Connection} (h:cnB ls c=true):zBp ls c:=by
 unfold cnB at h;simp only [Bool.and_eq_true,Bool.not_eq_true',decide_eq_false_iff_not] at h;obtain ⟨h1,h2,h3,h4,h5,h6⟩:=h;have h1:=zD.1 h1;have h2:=zD.1 h2;exact ⟨by omega,by omega,zD.1 h3,by omega,zD.1 h5,zD.1 h6⟩
section
variable {p:Plan} {ls:List Line} (hn:1≤ls.length∧ls.length≤20) (hK:∀ i,i<ls.length->zpO p (ls.getD i L0)) {h:Int} (hh:30≤h∧h≤7200) {os:List Int} (hol:os.length=ls.length) (ho:∀ i,i<ls.length->0≤os.getD i 0∧os.getD i 0≤100000) {c:Connection} (hc:cnB ls c=true)
include hn hK hh hol ho hc
omit hn hh hol ho hc in
theorem csk {i:Nat} (hi:i<ls.length) (home:Bool):znR p (ls.getD i L0) (zI (ls.getD i L0) home):=by
 cases home
 ·exact (hK i hi).o
 ·exact (hK i hi).h
theorem zoS:-300000≤zjc p ls h os c∧zjc p ls h os c≤600000:=by
 have C:=zve hc;have h1:=C.f;have h2:=C.t;have b1:=zgZ (hK c.1.toNat (by omega)) hh (ho c.1.toNat (by omega)) c.2.1;have b2:=zgZ (hK c.2.2.2.1.toNat (by omega)) hh (ho c.2.2.2.1.toNat (by omega)) c.2.2.2.2.1;have k1:=csk hK (i:=c.1.toNat) (by omega) c.2.1;have k2:=csk hK (i:=c.2.2.2.1.toNat) (by omega) c.2.2.2.2.1;have f1:=C.fs;have f2:=C.ts;unfold zcY at f1 f2;have o1:=zgb k1.C k1.M (k:=c.2.2.1.toNat) (by omega);have o2:=zgb k2.C k2.M (k:=c.2.2.2.2.2.1.toNat) (by omega);have d1:=k1.C.dw c.2.2.1.toNat (by omega);have n1:=k1.C.n;have n2:=k2.C.n;have o3:=ho c.1.toNat (by omega);have o4:=ho c.2.2.2.1.toNat (by omega);unfold zjc zqD zqC;have l1:zdE (msC p (ls.getD c.1.toNat L0) (zI (ls.getD c.1.toNat L0) c.2.1)) (zI (ls.getD c.1.toNat L0) c.2.1) c.2.2.1.toNat≤40000+10000:=by
  have hl:=k1.l2;unfold zc4 at hl;by_cases e:c.2.2.1.toNat=(zI (ls.getD c.1.toNat L0) c.2.1).2.1.length-1
  ·rw [e]; exact hl
  ·have:=zsK k1.C k1.M (i:=c.2.2.1.toNat) (j:=(zI (ls.getD c.1.toNat L0) c.2.1).2.1.length-1) (by omega) (by omega);omega
 have l2:zdE (msC p (ls.getD c.2.2.2.1.toNat L0) (zI (ls.getD c.2.2.2.1.toNat L0) c.2.2.2.2.1)) (zI (ls.getD c.2.2.2.1.toNat L0) c.2.2.2.2.1) c.2.2.2.2.2.1.toNat≤50000:=by
  have hl:=k2.l2;unfold zc4 at hl;have:=zsK k2.C k2.M (i:=c.2.2.2.2.2.1.toNat) (j:=(zI (ls.getD c.2.2.2.1.toNat L0) c.2.2.2.2.1).2.1.length-1) (by omega) (by omega);omega
 omega
theorem zsY:c.2.2.2.2.2.2.1≤ziO p ls h os c∧ziO p ls h os c<c.2.2.2.2.2.2.1+h:=by
 unfold ziO;have h1:=Int.emod_nonneg (zjc p ls h os c-c.2.2.2.2.2.2.1) (show h≠0 by omega);have h2:=Int.emod_lt_of_pos (zjc p ls h os c-c.2.2.2.2.2.2.1) (show 0<h by omega);omega
theorem zsZ:zc8 (ls.map (rnS p)) h os c=some (ziO p ls h os c):=by
 have C:=zve hc;have h1:=C.f;have h2:=C.t;have hd:=zoS hn hK hh hol ho hc;have hw:=zsY hn hK hh hol ho hc;have b1:=zgZ (hK c.1.toNat (by omega)) hh (ho c.1.toNat (by omega)) c.2.1;have b2:=zgZ (hK c.2.2.2.1.toNat (by omega)) hh (ho c.2.2.2.1.toNat (by omega)) c.2.2.2.2.1;have k1:=csk hK (i:=c.1.toNat) (by omega) c.2.1;have k2:=csk hK (i:=c.2.2.2.1.toNat) (by omega) c.2.2.2.2.1;have f1:=C.fs;have f2:=C.ts;unfold zcY at f1 f2;have n1:=k1.C.n;have n2:=k2.C.n;have hdl:=k1.C.d;have o1:=zgb k1.C k1.M (k:=c.2.2.1.toNat) (by omega);have o2:=zgb k2.C k2.M (k:=c.2.2.2.2.2.1.toNat) (by omega);have d1:=k1.C.dw c.2.2.1.toNat (by omega);have o3:=ho c.1.toNat (by omega);have o4:=ho c.2.2.2.1.toNat (by omega);have hl:=C.l;have hm:=C.m;have e1:=zpS (hK c.1.toNat (by omega)) hh (ho c.1.toNat (by omega)) c.2.1;have e2:=zpS (hK c.2.2.2.1.toNat (by omega)) hh (ho c.2.2.2.1.toNat (by omega)) c.2.2.2.2.1;have a1:idx os c.1=some (os.getD c.1.toNat 0):=za1 (by omega) (by omega);have a2:idx os c.2.2.2.1=some (os.getD c.2.2.2.1.toNat 0):=za1 (by omega) (by omega);have a3:idx (zfF (msC p (ls.getD c.1.toNat L0) (zI (ls.getD c.1.toNat L0) c.2.1)) (zI (ls.getD c.1.toNat L0) c.2.1)) c.2.2.1=some (zdE (msC p (ls.getD c.1.toNat L0) (zI (ls.getD c.1.toNat L0) c.2.1)) (zI (ls.getD c.1.toNat L0) c.2.1) c.2.2.1.toNat):=by
  have:=zcq (n:=(zI (ls.getD c.1.toNat L0) c.2.1).2.1.length) (f:=zdE (msC p (ls.getD c.1.toNat L0) (zI (ls.getD c.1.toNat L0) c.2.1)) (zI (ls.getD c.1.toNat L0) c.2.1)) (i:=c.2.2.1.toNat) (by omega);rwa [Int.toNat_of_nonneg (by omega)] at this
 have a4:idx (zfF (msC p (ls.getD c.2.2.2.1.toNat L0) (zI (ls.getD c.2.2.2.1.toNat L0) c.2.2.2.2.1)) (zI (ls.getD c.2.2.2.1.toNat L0) c.2.2.2.2.1)) c.2.2.2.2.2.1=some (zdE (msC p (ls.getD c.2.2.2.1.toNat L0) (zI (ls.getD c.2.2.2.1.toNat L0) c.2.2.2.2.1)) (zI (ls.getD c.2.2.2.1.toNat L0) c.2.2.2.2.1) c.2.2.2.2.2.1.toNat):=by
  have:=zcq (n:=(zI (ls.getD c.2.2.2.1.toNat L0) c.2.2.2.2.1).2.1.length) (f:=zdE (msC p (ls.getD c.2.2.2.1.toNat L0) (zI (ls.getD c.2.2.2.1.toNat L0) c.2.2.2.2.1)) (zI (ls.getD c.2.2.2.1.toNat L0) c.2.2.2.2.1)) (i:=c.2.2.2.2.2.1.toNat) (by omega);rwa [Int.toNat_of_nonneg (by omega)] at this
 have a5:idx (zI (ls.getD c.1.toNat L0) c.2.1).2.2.1 c.2.2.1=some (dwl (zI (ls.getD c.1.toNat L0) c.2.1) c.2.2.1.toNat):=za1 (by omega) (by omega);have a6:(Zb (zaj (rnS p (ls.getD c.1.toNat L0)).1) fun y20=>idx y20 (cond c.2.1 1 0))=some (zI (ls.getD c.1.toNat L0) c.2.1):=by
  cases c.2.1<;>rfl
 rw [show zaj (rnS p (ls.getD c.1.toNat L0)).1=some [(ls.getD c.1.toNat L0).1,(ls.getD c.1.toNat L0).2.1] from rfl,Zs] at a6;unfold zc8;simp only [zlu (p:=p) (ls:=ls) (i:=c.1) (by omega),zlu (p:=p) (ls:=ls) (i:=c.2.2.2.1) (by omega),Zs,ziN,a1,a2,e1,e2,zsS,a3,a4,show zaj (rnS p (ls.getD c.1.toNat L0)).1=some [(ls.getD c.1.toNat L0).1,(ls.getD c.1.toNat L0).2.1] from rfl,a6,a5];have hdf:zqD p (ls.getD c.2.2.2.1.toNat L0) c.2.2.2.2.1 h (os.getD c.2.2.2.1.toNat 0) c.2.2.2.2.2.1.toNat-zqC p (ls.getD c.1.toNat L0) c.2.1 h (os.getD c.1.toNat 0) c.2.2.1.toNat=zjc p ls h os c:=rfl;unfold zqD zqC at hdf;rw [zd (n:=zfG p (ls.getD c.2.2.2.1.toNat L0) c.2.2.2.2.1 h (os.getD c.2.2.2.1.toNat 0)+_) (by omega) (by omega),zd (n:=zfG p (ls.getD c.1.toNat L0) c.2.1 h (os.getD c.1.toNat 0)+_) (by omega) (by omega),zd (n:=zfG p (ls.getD c.1.toNat L0) c.2.1 h (os.getD c.1.toNat 0)+_-_) (by omega) (by omega)];rw [hdf,zd (n:=zjc p ls h os c) (by omega) (by omega),zd (n:=zjc p ls h os c-_) (by omega) (by omega),zic (by omega) (by omega),Zs];show some (w64 (ziO p ls h os c))=_;rw [zd (by omega) (by omega)]
end
def evL (l:List Int):Bool:=!(l.any fun h=>h !=l.getD 0 0)
theorem zs0 (l:List Int) (hl:l.length≤9223372036854775807):zc7 l=some (evL l):=by
 unfold zc7 evL;rw [zi3 l hl _ (fun h=>h !=l.getD 0 0) (fun x hx=>by
  have:0<l.length:=List.length_pos_of_mem hx;unfold zdR;rw [show idx l (0:Int)=some (l.getD 0 0) from zp (l:=l) (i:=0) 0 this,Zs]),Zs]
theorem zvf (s:Service) (hl:1≤s.2.1.length∧s.2.1.length≤1000000):zeX s=some (evL s.2.1):=by
  unfold zeX;have h0:idx s.2.1 (0:Int)=some (s.2.1.getD 0 0):=zp (l:=s.2.1) (i:=0) 0 (by omega);have h:=zb5 (f:=fun s7:Int=>
cond (decide (s7<(zn s.2.1))) (Zb (idx s.2.1 s7) fun x12=>
Zb (idx s.2.1 0) fun x13=>
cond (x12 !=x13) (some (.inr (.inr false))) (some (.inl (w64 (s7+1))))) (some (.inr (.inl ():Unit⊕Bool)))) (fun k=>((k+1:Nat):Int)) (s.2.1.length-1) (fun k=>!(s.2.1.getD (k+1) 0 !=s.2.1.getD 0 0)) (.inr false) (.inl ()) (s0:=1) rfl (by simp only [big]; omega) (fun i hi=>by
      have hil:i+1<s.2.1.length:=by omega
      simp only [zN hil,cond_true,zp 0 hil,h0,Zs,zx (show i+1<9223372036854775807 by omega)];cases (s.2.1.getD (i+1) 0 !=s.2.1.getD 0 0)<;>rfl) (by rw [show s.2.1.length-1+1=s.2.1.length by omega,zO]; rfl)
  rw [h,Zs];have e:((List.range (s.2.1.length-1)).all fun k=>!(s.2.1.getD (k+1) 0 !=s.2.1.getD 0 0))=evL s.2.1:=by
    unfold evL;rw [Bool.eq_iff_iff,List.all_eq_true,Bool.not_eq_true',List.any_eq_false];constructor
    · intro h x hx;obtain ⟨i,hi,rfl⟩:=List.getElem_of_mem hx;by_cases h0:i=0
      · subst h0;rw [show s.2.1.getD 0 0=s.2.1[0] by simp [List.getD,hi]];simp
      · have:=h (i-1) (List.mem_range.2 (by omega));rw [show i-1+1=i by omega,show s.2.1.getD i 0=s.2.1[i] by simp [List.getD,hi]] at this;rw [Bool.not_eq_true'] at this;rw [this]; simp
    · intro h i hi;have hi:=List.mem_range.1 hi;have hil:i+1<s.2.1.length:=by omega
      have:=h s.2.1[i+1] (List.getElem_mem hil);rw [show s.2.1.getD (i+1) 0=s.2.1[i+1] by simp [List.getD,hil]];simpa using this
  rw [e];cases evL s.2.1<;>rfl
section
variable {p:Plan} {s:Service} (V:zy8 p s) (H:zva p s)
include V H
theorem svK:∀ i,i<s.1.length->zpO p (s.1.getD i L0):=fun i hi=>lnK V H hi
theorem zs1:∀ i,i<s.1.length->0≤s.2.2.1.getD i 0∧s.2.2.1.getD i 0≤100000:=fun i hi=>by
 have h1:=V.ob i hi;have h2:=V.hb i hi;unfold of0 at h1;omega
theorem zAl (he:evL s.2.1=true) {i:Nat} (hi:i<s.1.length):hd0 s i=hd0 s 0:=by
 unfold evL at he;rw [Bool.not_eq_true',List.any_eq_false] at he;have hl:=V.h;have hil:i<s.2.1.length:=by omega
 have:=he s.2.1[i] (List.getElem_mem hil);unfold hd0;rw [show s.2.1.getD i 0=s.2.1[i] by simp [List.getD,hil]];simpa using this
theorem zxJ (c:Connection):zcH p s c=some (if (evL s.2.1&&cnB s.1 c)=true then (ziO p s.1 (hd0 s 0) s.2.2.1 c,0) else (0,2)):=by
 have hl:=V.h;have hn:=V.n;have hB:zkD p s=true:=by
  unfold zkD;rw [V.v,decide_eq_true V.h,decide_eq_true V.o,zD.2 (show 1≤zn s.1∧zn s.1≤20 by rw [zm]; omega)];simp only [Bool.true_and];rw [List.all_eq_true];intro i hi;have hi:=List.mem_range.1 hi;rw [V.l i hi,Bool.true_and];unfold hoB;rw [zD.2 (V.hb i hi),zD.2 (V.ob i hi)]; rfl
 unfold zcH;rw [zeF H,if_pos hB,Zs];simp only [Bool.not_true,cond_false,zs0 s.2.1 (by omega),Zs];cases he:evL s.2.1 with
 | false=>rfl
 | true=>
 simp only [Bool.not_true,cond_false,zie hn (svK V H) [c] (by simp),Zs,Bool.true_and];have hcb:zkw s.1 [c]=cnB s.1 c:=by
  unfold zkw;rw [List.all_cons,List.all_nil,Bool.and_true,decide_eq_true (show zn [c]≤60 from (show (1:Int)≤60 by omega)),Bool.and_true]
 rw [hcb];cases hc:cnB s.1 c with
 | false=>rfl
 | true=>
 have h0:idx s.2.1 (0:Int)=some (hd0 s 0):=zp (l:=s.2.1) (i:=0) 0 (by omega);simp only [Bool.not_true,cond_false,h0,Zs,if_true,zsZ hn (svK V H) (V.hb 0 (by omega)) V.o (zs1 V H) hc]
def zxK (p:Plan) (s:Service) (l:List Connection):Bool:=!(l.any fun c=>decide (ziO p s.1 (hd0 s 0) s.2.2.1 c>c.2.2.2.2.2.2.2.1))
theorem zvg (l:List Connection) (hll:l.length≤9223372036854775807):zcl p s l=some (if (evL s.2.1&&zkw s.1 l)=true then (zxK p s l,0) else (false,2)):=by
 have hl:=V.h;have hn:=V.n;unfold zcl;rw [zeF H,if_pos (zsR V H),Zs];simp only [Bool.not_true,cond_false,zs0 s.2.1 (by omega),Zs];cases he:evL s.2.1 with
 | false=>rfl
 | true=>
 simp only [Bool.not_true,cond_false,zie hn (svK V H) l hll,Zs,Bool.true_and];cases hc:zkw s.1 l with
 | false=>rfl
 | true=>
 have hc2:l.all (cnB s.1)=true:=by unfold zkw at hc; rw [Bool.and_eq_true] at hc; exact hc.1
 have h0:idx s.2.1 (0:Int)=some (hd0 s 0):=zp (l:=s.2.1) (i:=0) 0 (by omega);obtain ⟨k,g1,g2⟩:=zfD l hll (fun x=>zcQ x (s.1.map (rnS p)) s) (fun c=>decide (ziO p s.1 (hd0 s 0) s.2.2.1 c>c.2.2.2.2.2.2.2.1)) (fun c hcm=>by
  unfold zcQ;have hcc:=List.all_eq_true.1 hc2 c hcm;simp only [h0,Zs,zsZ hn (svK V H) (V.hb 0 (by omega)) V.o (zs1 V H) hcc])
 unfold zaa zV;simp only [Bool.not_true,cond_false];rw [g1,Zs,g2];rfl
theorem zs2 (he:evL s.2.1=true) {c:Connection} (hc:cnB s.1 c=true):zek p s c=some (zjc p s.1 (hd0 s 0) s.2.2.1 c):=by
 have C:=zve hc;have h1:=C.f;have h2:=C.t;have hn:=V.n;have hK:=svK V H;have hh:=V.hb 0 (by omega);have ho:=zs1 V H;have hd:=zoS hn hK hh V.o ho hc;have b1:=zgZ (hK c.1.toNat (by omega)) hh (ho c.1.toNat (by omega)) c.2.1;have b2:=zgZ (hK c.2.2.2.1.toNat (by omega)) hh (ho c.2.2.2.1.toNat (by omega)) c.2.2.2.2.1;have k1:=csk hK (i:=c.1.toNat) (by omega) c.2.1;have k2:=csk hK (i:=c.2.2.2.1.toNat) (by omega) c.2.2.2.2.1;have f1:=C.fs;have f2:=C.ts;unfold zcY at f1 f2;have n1:=k1.C.n;have n2:=k2.C.n;have hdl:=k1.C.d;have o1:=zgb k1.C k1.M (k:=c.2.2.1.toNat) (by omega);have o2:=zgb k2.C k2.M (k:=c.2.2.2.2.2.1.toNat) (by omega);have d1:=k1.C.dw c.2.2.1.toNat (by omega);have o3:=ho c.1.toNat (by omega);have o4:=ho c.2.2.2.1.toNat (by omega);have e1:=zhj V H (i:=c.1.toNat) (by omega) c.2.1;have e2:=zhj V H (i:=c.2.2.2.1.toNat) (by omega) c.2.2.2.2.1;rw [zAl V H he (by omega),Int.toNat_of_nonneg (by omega)] at e1 e2;have p1:=zvc V H (i:=c.1.toNat) (by omega) c.2.1;have p2:=zvc V H (i:=c.2.2.2.1.toNat) (by omega) c.2.2.2.2.1;unfold ln0 at e1 e2 p1 p2;unfold of0 at e1 e2;have l1:idx s.1 c.1=some (s.1.getD c.1.toNat L0):=za1 (by omega) (by omega);have l2:idx s.1 c.2.2.2.1=some (s.1.getD c.2.2.2.1.toNat L0):=za1 (by omega) (by omega);have a3:idx (zfF (msC p (s.1.getD c.1.toNat L0) (zI (s.1.getD c.1.toNat L0) c.2.1)) (zI (s.1.getD c.1.toNat L0) c.2.1)) c.2.2.1=some (zdE (msC p (s.1.getD c.1.toNat L0) (zI (s.1.getD c.1.toNat L0) c.2.1)) (zI (s.1.getD c.1.toNat L0) c.2.1) c.2.2.1.toNat):=by
  have:=zcq (n:=(zI (s.1.getD c.1.toNat L0) c.2.1).2.1.length) (f:=zdE (msC p (s.1.getD c.1.toNat L0) (zI (s.1.getD c.1.toNat L0) c.2.1)) (zI (s.1.getD c.1.toNat L0) c.2.1)) (i:=c.2.2.1.toNat) (by omega);rwa [Int.toNat_of_nonneg (by omega)] at this
 have a4:idx (zfF (msC p (s.1.getD c.2.2.2.1.toNat L0) (zI (s.1.getD c.2.2.2.1.toNat L0) c.2.2.2.2.1)) (zI (s.1.getD c.2.2.2.1.toNat L0) c.2.2.2.2.1)) c.2.2.2.2.2.1=some (zdE (msC p (s.1.getD c.2.2.2.1.toNat L0) (zI (s.1.getD c.2.2.2.1.toNat L0) c.2.2.2.2.1)) (zI (s.1.getD c.2.2.2.1.toNat L0) c.2.2.2.2.1) c.2.2.2.2.2.1.toNat):=by
  have:=zcq (n:=(zI (s.1.getD c.2.2.2.1.toNat L0) c.2.2.2.2.1).2.1.length) (f:=zdE (msC p (s.1.getD c.2.2.2.1.toNat L0) (zI (s.1.getD c.2.2.2.1.toNat L0) c.2.2.2.2.1)) (zI (s.1.getD c.2.2.2.1.toNat L0) c.2.2.2.2.1)) (i:=c.2.2.2.2.2.1.toNat) (by omega);rwa [Int.toNat_of_nonneg (by omega)] at this
 have a5:idx (zI (s.1.getD c.1.toNat L0) c.2.1).2.2.1 c.2.2.1=some (dwl (zI (s.1.getD c.1.toNat L0) c.2.1) c.2.2.1.toNat):=za1 (by omega) (by omega);unfold zek;simp only [l1,l2,e1,e2,p1,p2,Zs,a3,a4,zeE,a5];have hdf:zqD p (s.1.getD c.2.2.2.1.toNat L0) c.2.2.2.2.1 (hd0 s 0) (s.2.2.1.getD c.2.2.2.1.toNat 0) c.2.2.2.2.2.1.toNat-zqC p (s.1.getD c.1.toNat L0) c.2.1 (hd0 s 0) (s.2.2.1.getD c.1.toNat 0) c.2.2.1.toNat=zjc p s.1 (hd0 s 0) s.2.2.1 c:=rfl;unfold zqD zqC at hdf;rw [zd (n:=zfG p (s.1.getD c.2.2.2.1.toNat L0) c.2.2.2.2.1 (hd0 s 0) (s.2.2.1.getD c.2.2.2.1.toNat 0)+_) (by omega) (by omega),zd (n:=zfG p (s.1.getD c.1.toNat L0) c.2.1 (hd0 s 0) (s.2.2.1.getD c.1.toNat 0)+_) (by omega) (by omega),zd (n:=zfG p (s.1.getD c.1.toNat L0) c.2.1 (hd0 s 0) (s.2.2.1.getD c.1.toNat 0)+_-_) (by omega) (by omega)];rw [hdf,zd (by omega) (by omega)]
theorem zmD (he:evL s.2.1=true) {c:Connection} (hc:cnB s.1 c=true):zd3 p s c=some (ziO p s.1 (hd0 s 0) s.2.2.1 c):=by
 have C:=zve hc;have hn:=V.n;have hl:=V.h;have hh:=V.hb 0 (by omega);have hd:=zoS hn (svK V H) hh V.o (zs1 V H) hc;have hw:=zsY hn (svK V H) hh V.o (zs1 V H) hc;have h1:=C.l;have h2:=C.m;have h0:idx s.2.1 (0:Int)=some (hd0 s 0):=zp (l:=s.2.1) (i:=0) 0 (by omega);unfold zd3;rw [zs2 V H he hc,Zs,h0,Zs,zd (n:=zjc p s.1 (hd0 s 0) s.2.2.1 c-_) (by omega) (by omega),zhL (by omega) (by omega),Zs];show some (w64 (ziO p s.1 (hd0 s 0) s.2.2.1 c))=_;rw [zd (by omega) (by omega)]
theorem zs3 (he:evL s.2.1=true) (l:List Connection) (hll:l.length≤1000000) (hc:l.all (cnB s.1)=true):zdA p s l=some (zxK p s l):=by
  unfold zdA zxK;have h:=zb5 (f:=fun s9:Int=>
cond (decide (s9<(zn l))) (Zb (idx l s9) fun x15=>
Zb (zd3 p s x15) fun y16=>
Zb (idx l s9) fun x17=>
cond (decide (y16>x17.2.2.2.2.2.2.2.1)) (some (.inr (.inr false))) (some (.inl (w64 (s9+1))))) (some (.inr (.inl ():Unit⊕Bool)))) (fun k=>(k:Int)) l.length (fun i=>!decide (ziO p s.1 (hd0 s 0) s.2.2.1 (l.getD i C0)>(l.getD i C0).2.2.2.2.2.2.2.1)) (.inr false) (.inl ()) (s0:=0) rfl (by simp only [big]; omega) (fun i hi=>by
      have hcc:cnB s.1 (l.getD i C0)=true:=by
        rw [show l.getD i C0=l[i] by simp [List.getD,hi]];exact List.all_eq_true.1 hc _ (List.getElem_mem hi)
      simp only [zN hi,cond_true,zp C0 hi,Zs,zmD V H he hcc,zx (show i<9223372036854775807 by omega)];cases decide (ziO p s.1 (hd0 s 0) s.2.2.1 (l.getD i C0)>(l.getD i C0).2.2.2.2.2.2.2.1)<;>rfl) (by simp only [zO,cond_false])
  rw [h,Zs,zh7 l _ C0,Bool.not_not];cases ((List.range l.length).all fun j=>!decide (ziO p s.1 (hd0 s 0) s.2.2.1 (l.getD j C0)>(l.getD j C0).2.2.2.2.2.2.2.1))<;>rfl
end
theorem zs4 (hk:zu=some true) (p:Plan) (s:Service) (l:List Connection) (hs:s.1.length≤9223372036854775807):zb2 p s l=some true:=by
 unfold zb2;obtain ⟨b,e,q⟩:=zmC p s hs;rw [e,Zs,hk];cases b with
 | false=>rfl
 | true=>
 have F:=q rfl;have H:=F.sv;simp only [Bool.not_true,cond_false];have hc7:∃ c7,(cond (decide (zn l>5)) (cond (decide (zn l≤60)) (some true) (cond (decide (zn l>80)) (some true) (some (zn l==0)))) (cond (decide (zn l>80)) (some true) (some (zn l==0))))=some c7∧(c7=false->1≤l.length∧l.length≤80):=by
  have hz:(zn l==0)=false->1≤l.length:=fun h=>by
   rw [zm] at h;have:¬ ((l.length:Int)=0):=fun h2=>by rw [h2] at h; cases h
   omega
  by_cases h80:zn l>80
  ·rw [decide_eq_true h80];rw [zm] at h80;rw [decide_eq_true (show zn l>5 by rw [zm]; omega),decide_eq_false (show ¬ zn l≤60 by rw [zm]; omega)];exact ⟨true,rfl,fun h=>by cases h⟩
  ·rw [decide_eq_false h80];rw [zm] at h80;cases decide (zn l>5)<;>cases decide (zn l≤60);all_goals first | exact ⟨_,rfl,fun h=>⟨hz h,by omega⟩⟩ | exact ⟨true,rfl,fun h=>by cases h⟩
 obtain ⟨c7,g1,g2⟩:=hc7;rw [g1,Zs];cases c7 with
 | true=>rfl
 | false=>
 obtain ⟨hl1,hl2⟩:=g2 rfl;have h0:idx l (0:Int)=some (l.getD 0 C0):=zp (l:=l) (i:=0) C0 (by omega);simp only [cond_false,h0,Zs,zgs H];cases hB:zkD p s with
 | false=>
  have hW:zcH p s (l.getD 0 C0)=some (0,2):=by
   unfold zcH;rw [zeF H,hB]; rfl
  have hKp:zcl p s l=some (false,2):=by
   unfold zcl;rw [zeF H,hB]; rfl
  rw [hW,hKp];rfl
 | true=>
 have V:=zqB hB;have hn:=V.n;have hlh:=V.h;rw [zxJ V H,zvg V H l (by omega)];simp only [cond_true,Zs,zvf s (by omega)];cases he:evL s.2.1 with
 | false=>rfl
 | true=>
 simp only [Bool.true_and,Bool.not_true,cond_false,zpU hn (svK V H),zsU hn (svK V H) l (by omega),Zs];cases hcs:zkw s.1 l with
 | false=>
  cases hc:cnB s.1 (l.getD 0 C0) with
  | false=>rfl
  | true=>
   simp only [if_true,zmD V H he hc,Bool.not_true,cond_false,Zs,show ((0:Int)!=0)=false from rfl,bne_self_eq_false];rfl
 | true=>
  have hca:l.all (cnB s.1)=true:=by unfold zkw at hcs; rw [Bool.and_eq_true] at hcs; exact hcs.1
  have hc:cnB s.1 (l.getD 0 C0)=true:=by
   have hp:0<l.length:=by omega
   rw [show l.getD 0 C0=l[0] by simp [List.getD,hp]];exact List.all_eq_true.1 hca _ (List.getElem_mem hp)
  rw [hc];simp only [if_true,zmD V H he hc,zs3 V H he l (by omega) hca,Bool.not_true,cond_false,Zs,show ((0:Int)!=0)=false from rfl,bne_self_eq_false,show ((0:Int)==0)=true from rfl,cond_true,beq_self_eq_true]
end Go.Ai.Sx
