/- Service: services,in the program and in the reference. -/
import Derived.Test.YtppebpagcocogaaGreatQ15
set_option linter.unusedSimpArgs false
set_option linter.unusedVariables false
set_option linter.unusedSectionVars false
namespace Go.Ai.Sx
def hd0 (s:Service) (i:Nat):Int:=s.2.1.getD i 0
def of0 (s:Service) (i:Nat):Int:=s.2.2.1.getD i 0
def L0:Line:=(([],[],[],()),([],[],[],()),(0,0,0,0,0,0,0,0,0,[],()),0,0,())
def ln0 (s:Service) (i:Nat):Line:=s.1.getD i L0
def hoB (s:Service) (i:Nat):Bool:=inB (hd0 s i) 30 7200&&inB (of0 s i) 0 (hd0 s i-1)
def zxw (p:Plan) (s:Service):Bool:=zaG p&&(inB (zz s.1) 1 20&&(decide (s.2.1.length=s.1.length)&&(decide (s.2.2.1.length=s.1.length)&&((List.range s.1.length).all fun i=>zdI p (ln0 s i)&&hoB s i))))
structure zzz (p:Plan) (s:Service):Prop where
 n:s.1.length≤9223372036854775807
 h:s.2.1.length≤9223372036854775807
 l:∀ i,i<s.1.length->zpT p (ln0 s i)
theorem zus {p:Plan} {ls:List Line} (hI:∀ i,i<ls.length->zpT p (ls.getD i L0)):zcP p ls=some (if (inB (zz ls) 1 20&&(List.range ls.length).all fun i=>zaG p&&zdI p (ls.getD i L0))=true then (ls.map (rnS p),true) else ([],false)):=by
  unfold zcP;rw [zjN,Option.bind_some];cases hi:inB (zz ls) 1 20 with
  | false=>rfl
  | true =>
  have hi:=zaH.1 hi;rw [zE] at hi;simp only [Bool.not_true,cond_false,Bool.true_and];have key:∀ k i:Nat,i+k=ls.length->Lp (fun s10:List zL×Int =>
cond ((decide (s10.2<(zz ls)))) (Option.bind (idx ls s10.2) fun x13 =>
Option.bind (zbq p x13) fun y15 =>
cond ((!y15.2)) (some (.inr ((.inr (([],false)))))) (Option.bind (y15.1) fun p16 =>
Option.bind (zdJ 8 s10.1 ([p16])) fun x17 =>
some (.inl ((x17,(w64 (s10.2+1))))))) (some (.inr ((.inl s10.1:List zL⊕(List zL×Bool)))))) k ((ls.take i).map (rnS p),(i:Int)) (if ((List.range' i k).all fun i=>zaG p&&zdI p (ls.getD i L0))=true then .inl (ls.map (rnS p)) else .inr ([],false)):=by
    intro k;induction k with
    | zero =>
      intro i hi;have:i=ls.length:=by omega
      subst this;refine Lp.done ?_;simp only [z7,cond_false,List.take_length];rfl
    | succ k ih =>
      intro i hi;have hil:i<ls.length:=by omega
      have a1:idx ls (i:Int)=some (ls.getD i L0):=zI L0 hil;rw [List.range'_succ,List.all_cons];have ho:=ziG (hI i hil);cases hb:(zaG p&&zdI p (ls.getD i L0)) with
      | false =>
        rw [hb] at ho;refine Lp.done ?_;simp only [zY hil,cond_true,a1,Option.bind_some,ho,Bool.false_eq_true,if_false,Bool.not_false,Bool.false_and]
      | true =>
        rw [hb] at ho;rw [Bool.true_and];refine Lp.step ?_ (ih (i+1) (by omega));have htk:(ls.take (i+1)).map (rnS p)=(ls.take i).map (rnS p)++[rnS p (ls.getD i L0)]:=by
          rw [List.take_add_one,List.map_append];simp [List.getD,hil]
        simp only [zY hil,cond_true,a1,Option.bind_some,ho,if_true,Bool.not_true,cond_false];rw [zbl (by rw [List.length_map,List.length_take]; simp; omega),Option.bind_some,zN (by omega),htk]
  have hL:=(key ls.length 0 (by omega)).big (by simp only [big]; omega);rw [show ((0:Nat):Int)=0 from rfl,← List.range_eq_range'] at hL;rw [show (ls.take 0).map (rnS p)=[] from rfl] at hL;rw [hL,Option.bind_some];cases ((List.range ls.length).all fun i=>zaG p&&zdI p (ls.getD i L0))<;>rfl
theorem zm1 {n:Nat} {f g:Nat->Bool}:((List.range n).all fun i=>f i&&g i)=((List.range n).all f&&(List.range n).all g):=by
 rw [Bool.eq_iff_iff,Bool.and_eq_true,List.all_eq_true,List.all_eq_true,List.all_eq_true];constructor
 ·intro h;refine ⟨fun x hx=>?_,fun x hx=>?_⟩
  ·have:=h x hx; rw [Bool.and_eq_true] at this; exact this.1
  ·have:=h x hx; rw [Bool.and_eq_true] at this; exact this.2
 ·intro h x hx;rw [h.1 x hx,h.2 x hx]; rfl
theorem zpN {p:Plan} {s:Service} (H:zzz p s):zcg p s=some (if zxw p s=true then (s.1.map (rnS p),true) else ([],false)):=by
  unfold zcg zxw;have hh:=H.h;have hn:=H.n;by_cases h1:s.2.1.length=s.1.length;rotate_left
  · have e1:(zz s.2.1 !=zz s.1)=true:=by rw [zE,zE]; simp only [bne_iff_ne,ne_eq]; omega
    rw [e1,decide_eq_false h1];simp
  have e1:(zz s.2.1 !=zz s.1)=false:=by rw [zE,zE,h1]; exact bne_self_eq_false _
  by_cases h2:s.2.2.1.length=s.1.length;rotate_left
  · have e2:(zz s.2.2.1 !=zz s.1)=true:=by rw [zE,zE]; simp only [bne_iff_ne,ne_eq]; omega
    rw [e1,e2,decide_eq_false h2];simp
  have e2:(zz s.2.2.1 !=zz s.1)=false:=by rw [zE,zE,h2]; exact bne_self_eq_false _
  rw [e1,e2,decide_eq_true h1,decide_eq_true h2];simp only [cond_false,Option.bind_some,Bool.true_and];have h:=zef (f:=fun s17:Int =>
cond ((decide (s17<(zz s.2.1)))) (Option.bind (idx s.2.1 s17) fun x20 =>
Option.bind (zae x20 30 7200) fun y25 =>
cond ((!y25)) (some (.inr ((.inr (([],false)))))) (Option.bind (idx s.2.2.1 s17) fun x28 =>
Option.bind (zae x28 0 ((w64 (x20-1)))) fun y29 =>
cond ((!y29)) (some (.inr ((.inr (([],false)))))) (some (.inl ((w64 (s17+1))))))) (some (.inr ((.inl (()):Unit⊕(List zL×Bool)))))) (fun k=>(k:Int)) s.2.1.length (hoB s) (.inr ([],false)) (.inl ()) (s0:=0) rfl (by simp only [big]; omega) (fun i hi=>by
      have a1:idx s.2.1 (i:Int)=some (hd0 s i):=zI 0 hi;have a2:idx s.2.2.1 (i:Int)=some (of0 s i):=zI 0 (by omega);unfold hoB;simp only [zY hi,cond_true,a1,a2,Option.bind_some,zjN];cases hb:inB (hd0 s i) 30 7200 with
      | false=>rfl
      | true =>
        have hb:=zaH.1 hb;simp only [Bool.not_true,cond_false,Bool.true_and];rw [zm (by omega) (by omega),zN (by omega)];cases inB (of0 s i) 0 (hd0 s i-1)<;>rfl) (by simp only [z7,cond_false])
  rw [h,Option.bind_some,h1,zm1];cases hA:(List.range s.1.length).all (hoB s) with
  | false =>
    simp;rfl
  | true =>
  simp only [if_true,zbx];rw [zus H.l];have hr:=zm1 (n:=s.1.length) (f:=fun _=>zaG p) (g:=fun i=>zdI p (ln0 s i));unfold ln0 at hr;rw [hr];unfold ln0;cases hi:inB (zz s.1) 1 20 with
  | false=>simp
  | true =>
  have hi:=zaH.1 hi;rw [zE] at hi;have hv:((List.range s.1.length).all fun _=>zaG p)=zaG p:=by
    obtain ⟨m,hm⟩:∃ m,s.1.length=m+1:=⟨s.1.length-1,by omega⟩;rw [hm,Bool.eq_iff_iff,List.all_eq_true];exact ⟨fun h=>h 0 (List.mem_range.2 (by omega)),fun h _ _=>h⟩
  rw [hv];simp only [Bool.and_true,Bool.true_and,Option.bind_some]
theorem zss {p:Plan} {s:Service} (H:zzz p s):zch p s=some (if zxw p s=true then 0 else 2):=by
 unfold zch;rw [zpN H,Option.bind_some];cases zxw p s<;>rfl
structure zDM (p:Plan) (s:Service):Prop where
 v:zaG p=true
 n:1≤s.1.length∧s.1.length≤20
 h:s.2.1.length=s.1.length
 o:s.2.2.1.length=s.1.length
 l:∀ i,i<s.1.length->zdI p (ln0 s i)=true
 hb:∀ i,i<s.1.length->30≤hd0 s i∧hd0 s i≤7200
 ob:∀ i,i<s.1.length->0≤of0 s i∧of0 s i≤hd0 s i-1
theorem znT {p:Plan} {s:Service} (H:zzz p s):zcO p s=some (zxw p s):=by
  unfold zcO zxw;rw [zhj,Option.bind_some];cases hv:zaG p with
  | false=>rfl
  | true =>
  simp only [Bool.not_true,cond_false,zAr,Option.bind_some];cases hi:inB (zz s.1) 1 20 with
  | false=>rfl
  | true =>
  have hi:=zaH.1 hi;rw [zE] at hi;by_cases h1:s.2.1.length=s.1.length;rotate_left
  · have e1:(zz s.2.1 !=zz s.1)=true:=by rw [zE,zE]; simp only [bne_iff_ne,ne_eq]; omega
    rw [e1,decide_eq_false h1];rfl
  have e1:(zz s.2.1 !=zz s.1)=false:=by rw [zE,zE,h1]; exact bne_self_eq_false _
  by_cases h2:s.2.2.1.length=s.1.length;rotate_left
  · have e2:(zz s.2.2.1 !=zz s.1)=true:=by rw [zE,zE]; simp only [bne_iff_ne,ne_eq]; omega
    rw [e1,e2,decide_eq_true h1,decide_eq_false h2];rfl
  have e2:(zz s.2.2.1 !=zz s.1)=false:=by rw [zE,zE,h2]; exact bne_self_eq_false _
  rw [e1,e2,decide_eq_true h1,decide_eq_true h2];simp only [Bool.not_true,cond_false,Option.bind_some,Bool.true_and];have h:=zef (f:=fun s44:Int =>
cond ((decide (s44<(zz s.1)))) (Option.bind (idx s.1 s44) fun x65 =>
Option.bind (zcN p x65) fun y66 =>
cond ((!y66)) (some (.inr ((.inr false)))) (Option.bind (idx s.2.1 s44) fun x69 =>
cond ((!(inB x69 30 7200))) (some (.inr ((.inr false)))) (Option.bind (idx s.2.2.1 s44) fun x73 =>
Option.bind (idx s.2.1 s44) fun x74 =>
cond ((!(inB x73 0 ((w64 (x74-1)))))) (some (.inr ((.inr false)))) (some (.inl ((w64 (s44+1)))))))) (some (.inr ((.inl (()):Unit⊕Bool))))) (fun k=>(k:Int)) s.1.length (fun i=>zdI p (ln0 s i)&&hoB s i) (.inr false) (.inl ()) (s0:=0) rfl (by simp only [big]; omega) (fun i hi=>by
      have a0:idx s.1 (i:Int)=some (ln0 s i):=zI L0 hi;have a1:idx s.2.1 (i:Int)=some (hd0 s i):=zI 0 (by omega);have a2:idx s.2.2.1 (i:Int)=some (of0 s i):=zI 0 (by omega);unfold hoB;simp only [zY hi,cond_true,a0,a1,a2,Option.bind_some,zoQ hv (H.l i hi)];cases zdI p (ln0 s i) with
      | false=>rfl
      | true =>
      cases hb:inB (hd0 s i) 30 7200 with
      | false=>rfl
      | true =>
        have hb:=zaH.1 hb;simp only [Bool.not_true,cond_false,Bool.true_and];rw [zm (by omega) (by omega),zN (by omega)];cases inB (of0 s i) 0 (hd0 s i-1)<;>rfl) (by simp only [z7,cond_false])
  rw [h,Option.bind_some];cases ((List.range s.1.length).all fun i=>zdI p (ln0 s i)&&hoB s i)<;>rfl
structure zAF (p:Plan) (s:Service):Prop where
 S:zAv p
 l:∀ i,i<s.1.length->zzt (ln0 s i)
 n:s.1.length≤3
 h:s.2.1.length≤4
 o:s.2.2.1.length≤4
theorem zAF.sv {p:Plan} {s:Service} (F:zAF p s):zzz p s:=by
 have a:=F.n;have b:=F.h;exact ⟨by omega,by omega,fun i hi=>zzu F.S (F.l i hi)⟩
theorem zxx (p:Plan) (s:Service) (hs:s.1.length≤9223372036854775807):∃ b,zeI p s=some b∧(b=true->zAF p s):=by
  unfold zeI;have hT:Tot (fun r:Unit⊕Bool=>(r=.inl ()∧∀ i,i<s.1.length->zzt (ln0 s i))∨r=.inr false) (iter (σ:=(Int)) (τ:=Unit⊕(Bool)) (fun s5 =>
cond ((decide (s5<(zz s.1)))) (Option.bind (idx s.1 s5) fun x8 =>
Option.bind (zbX x8) fun y9 =>
cond ((!y9)) (some (.inr ((.inr false)))) (some (.inl ((w64 (s5+1)))))) (some (.inr ((.inl (())))))) big 0):=by
    refine Tot.iter (fun x=>∃ k:Nat,x=(k:Int)∧k≤s.1.length∧∀ i,i<k->zzt (ln0 s i)) _ (fun x=>s.1.length-x.toNat) ⟨0,rfl,by omega,fun i hi=>by omega⟩ (by simp only [big]; omega) ?_
    rintro x ⟨k,rfl,hk,hA⟩
    by_cases h:k<s.1.length
    · obtain ⟨b,h1,h2⟩:=zm0 (ln0 s k);rw [zY h,cond_true,zI L0 h,Option.bind_some,show zbX (s.1.getD k L0)=some b from h1,Option.bind_some,zN (by omega)];cases b with
      | false=>exact Tot.some (.inr rfl)
      | true =>
        refine Tot.some ⟨⟨k+1,rfl,by omega,fun i hi=>?_⟩,by simp only [Int.toNat_natCast]; omega⟩;by_cases e:i=k
        · subst e; exact h2 rfl
        · exact hA i (by omega)
    · have:k=s.1.length:=by omega
      subst this;rw [z7,cond_false];exact Tot.some (.inl ⟨rfl,hA⟩)
  obtain ⟨r,h1,h2⟩:=hT;rw [h1,Option.bind_some];rcases h2 with ⟨rfl,hA⟩ | rfl;rotate_left
  · exact ⟨false,rfl,fun h=>by cases h⟩
  rw [zbx];obtain ⟨b1,e1,q1⟩:=zmZ p;rw [e1];cases b1 with
  | false=>exact ⟨false,rfl,fun h=>by cases h⟩
  | true =>
  obtain ⟨b,g1,g2⟩:=zjO (A:=zz s.1≤3) (zjO (A:=zz s.2.1≤4) (Q:=zz s.2.2.1≤4) (x:=some (decide (zz s.2.2.1≤4))) ⟨_,rfl,fun h=>of_decide_eq_true h⟩);simp only [Option.bind_some,cond_true];refine ⟨b,by rw [g1]; rfl,fun hb=>?_⟩;obtain ⟨a1,a2,a3⟩:=g2 hb;rw [zE] at a1 a2 a3;exact ⟨q1 rfl,hA,by omega,by omega,by omega⟩
theorem zpO (hk:zaF=some true) (p:Plan) (s:Service) (hs:s.1.length≤9223372036854775807):zbw p s=some true:=by
 unfold zbw;obtain ⟨b,e,q⟩:=zxx p s hs;rw [e,Option.bind_some,hk];cases b with
 | false=>rfl
 | true =>
 have F:=q rfl;rw [znT F.sv,zss F.sv];simp only [Bool.not_true,cond_false,Option.bind_some];cases zxw p s<;>rfl
end Go.Ai.Sx
