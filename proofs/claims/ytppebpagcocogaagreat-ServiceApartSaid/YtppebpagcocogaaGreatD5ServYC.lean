/- Service: the law of slots' distances. -/
import Derived.Test.YtppebpagcocogaaGreatD5ServXC
set_option linter.unusedSimpArgs false
set_option linter.unusedVariables false
set_option linter.unusedSectionVars false
namespace Go.Ai.Sx
open Option renaming bind->Zb,bind_some->Zs
def apO (p:Plan) (s:Service) (line:Int) (home:Bool) (oL rL ds:List Int) (f gap h:Int):(Int×Int×Int)->Option ((Int×Int×Int)⊕(Unit⊕Bool)):=(fun s141=>
cond (decide (s141.2.2<(zn oL))) (cond (decide (s141.2.2>0)) (Zb (idx rL (w64 (s141.2.2-1))) fun x148=>
Zb (zcb .i64 (w64 ((w64 (x148*f))+99)) 100) fun x149=>
Zb (idx ds s141.2.2) fun x150=>
Zb (z8 p s line home) fun y151=>
Zb (zaL y151 h) fun y152=>
Zb (iter (apF oL s141.2.2 (w64 ((w64 (s141.1+x149))+x150)) gap h) big (0,(w64 (y152-h)))) fun t171=>
alt (fun b173=>cond (decide (s141.2.2>0)) (cond (b173 !=s141.2.1) (some (.inr (.inr false))) (some (.inl ((w64 ((w64 (s141.1+x149))+x150)),b173,(w64 (s141.2.2+1)))))) (some (.inl ((w64 ((w64 (s141.1+x149))+x150)),b173,(w64 (s141.2.2+1)))))) (fun b174=>some (.inr (.inr b174))) t171) (Zb (z8 p s line home) fun y179=>
Zb (zaL y179 h) fun y180=>
Zb (iter (apF oL s141.2.2 s141.1 gap h) big (0,(w64 (y180-h)))) fun t199=>
alt (fun b201=>cond (decide (s141.2.2>0)) (cond (b201 !=s141.2.1) (some (.inr (.inr false))) (some (.inl (s141.1,b201,(w64 (s141.2.2+1)))))) (some (.inl (s141.1,b201,(w64 (s141.2.2+1)))))) (fun b202=>some (.inr (.inr b202))) t199)) (some (.inr (.inl ()))))
section
variable {p:Plan} {s:Service} (H:zva p s) {line f gap:Int} (S:zAv p s line f gap)
include H S
theorem zvp (home:Bool) {D:Int} (hD:0≤D∧D≤100000) (hF:frS p s line home f gap D=true):iter (apO p s line home (zfF (msC p (lnI s line) (zI (lnI s line) home)) (zI (lnI s line) home)) ((msC p (lnI s line) (zI (lnI s line) home)).map zep) (zI (lnI s line) home).2.2.1 f gap (hd0 s line.toNat)) big (D,0,0)=some (.inl ()):=by
 obtain ⟨b1,b2⟩:=zs8 H S;have hl:=S.l;have hi0:line.toNat<s.1.length:=by omega
 have KL:=slK H S;have K:znR p (lnI s line) (zI (lnI s line) home):=csO KL;have hB:=zhj S.V H hi0 home;rw [Int.toNat_of_nonneg hl.1] at hB;have hbse:zfG p (ln0 s line.toNat) home (hd0 s line.toNat) (of0 s line.toNat)=zfG p (lnI s line) home (hd0 s line.toNat) (of0 s line.toNat):=rfl;rw [hbse] at hB;have hbb:=zgZ KL b1 b2 home;have C:=K.C;have Ms:=K.M;have hn:=C.n;have hd:=C.d;have hm:=Ms.n;have hg:=S.g;have hff:=S.f;unfold frS zqF at hF;have hX:=fun i=>zqE C Ms hff (k:=i);have hO:=fun i=>zgb C Ms (k:=i);generalize hbs:zfG p (lnI s line) home (hd0 s line.toNat) (of0 s line.toNat)=base at *
 generalize hms:msC p (lnI s line) (zI (lnI s line) home)=ms at *
 generalize hcc:zI (lnI s line) home=c at *
 generalize hhd:hd0 s line.toNat=h at *
 have hm1:=Int.emod_nonneg base (show h≠0 by omega);have hm2:=Int.emod_lt_of_pos base (show 0<h by omega);obtain ⟨J,J1,J2,J3⟩:=zmE (fun j=>60000≤base%h-h+(j:Int)*h) 3000 (by
  show 60000≤base%h-h+((3000:Nat):Int)*h;omega)
 have hap:=fun (i:Nat) (hi:i<c.2.1.length) (j:Nat)=>zAG (D:=D) b1 hg.1 hF hi j;have hcnt:∀ (i:Nat),i<c.2.1.length->∀ A:Int,A=D+exN ms c f i->iter (apF (zfF ms c) (i:Int) A gap h) big (0,w64 (base%h-h))=some (.inl ((min J (zfT D base (exN ms c f) (zdE ms c) 0/h+base/h+2).toNat:Nat):Int)):=by
  intro i hi A hA;subst hA;have h1:=hX i hi;have h2:=hO i hi;rw [zd (n:=base%h-h) (by omega) (by omega)];exact zxS (o:=zdE ms c i) (zcq hi) b1 (by omega) (by omega) (by omega) (fun j hj=>by have:=J3 j hj; omega) J2 (by omega) (fun j _=>(hap i hi j).1) (fun j _=>(hap i hi j).2)
 generalize (min J (zfT D base (exN ms c f) (zdE ms c) 0/h+base/h+2).toNat:Nat)=CNT at *
 have h:=zb5 (τ:=Unit⊕Bool) (f:=apO p s line home (zfF ms c) (ms.map zep) c.2.2.1 f gap h) (fun i=>(D+exN ms c f (i-1),(if i=0 then 0 else (CNT:Int)),(i:Int))) c.2.1.length (fun _=>true) (.inr false) (.inl ()) (s0:=(D,0,0)) (by simp [exN]) (by simp only [big]; omega) (fun i hi=>by
  have hlen:decide ((i:Int)<zn (zfF ms c))=true:=decide_eq_true (by rw [zm,zgr]; omega);unfold apO;cases i with
  | zero=>
   have e:=hcnt 0 hi D (by simp [exN]);simp only [hlen,cond_true,decide_eq_false (show ¬ (((0:Nat):Int)>0) by omega),cond_false,hB,Zs,zhL (show 0<h by omega) (show h≤1000000000000 by omega)];rw [show D+exN ms c f (0-1)=D by simp [exN],e,Zs,zbu];simp [exN];rfl
  | succ q=>
   have hq:=hX q (by omega);have hq1:=hX (q+1) hi;have hex:=zpW Ms hff q;have hdw:=C.dw (q+1) hi;have a0:w64 (((q+1:Nat):Int)-1)=(q:Int):=by rw [zd (by omega) (by omega)]; omega
   have a2:idx (ms.map zep) (q:Int)=some (zep (ms.getD q 0)):=by
    have h2:q<ms.length:=by omega
    rw [zeD,List.getElem?_map,List.getElem?_eq_getElem h2,show ms.getD q 0=ms[q] by simp [List.getD,h2]];rfl
   have a3:zcb .i64 (w64 (w64 (zep (ms.getD q 0)*f)+99)) 100=some ((zep (ms.getD q 0)*f+99)/100):=by
    rw [zd (n:=zep (ms.getD q 0)*f) (by omega) (by omega),zd (by omega) (by omega),zbJ ⟨by omega,by omega⟩ (by omega)]
   have a4:idx c.2.2.1 ((q+1:Nat):Int)=some (dwl c (q+1)):=zp (l:=c.2.2.1) (i:=q+1) 0 (by omega);have hA:w64 (w64 (D+exN ms c f q+(zep (ms.getD q 0)*f+99)/100)+dwl c (q+1))=D+exN ms c f (q+1):=by
    rw [zd (n:=D+exN ms c f q+_) (by omega) (by omega),zd (by omega) (by omega)];simp only [exN];omega
   have e:=hcnt (q+1) hi _ rfl;simp only [hlen,cond_true,decide_eq_true (show (((q+1:Nat):Int)>0) by omega),a0,a2,a3,a4,hB,Zs,zhL (show 0<h by omega) (show h≤1000000000000 by omega),Nat.add_sub_cancel,hA];rw [e,Zs,zbu,zx (by omega)];simp only [if_neg (show ¬ q+1=0 by omega),if_neg (show ¬ q+1+1=0 by omega),bne_self_eq_false,cond_false,cond_true,if_true,Nat.add_sub_cancel]) (by
  unfold apO;simp only [];rw [decide_eq_false (by rw [zm,zgr]; omega),cond_false])
 rw [h];simp
end
theorem zti (hk:zu=some true) (p:Plan) (s:Service) (line:Int) (home:Bool) (D f gap:Int) (hs:s.1.length≤9223372036854775807):zb3 p s line home D f gap=some true:=by
  unfold zb3;obtain ⟨b,e,q⟩:=zmC p s hs;rw [e,hk];cases b with
  | false=>rfl
  | true=>
  have F:=q rfl;have H:=F.sv;have hn:=F.n;simp only [Bool.not_true,cond_false,zgs H,Zs];obtain ⟨c14,g1,g2⟩:∃ c14,(cond (!zkD p s) (some true) (cond (decide (line<0)) (some true) (cond (decide (line≥(zn s.1))) (some true) (cond (decide (f<100)) (some true) (cond (decide (f>400)) (some true) (cond (decide (gap<1)) (some true) (cond (decide (gap>3600)) (some true) (cond (decide (D<5000)) (some true) (cond (decide (D>20000)) (some true) (Zb (idx s.2.1 line) fun x27=>
some (decide (x27<30))))))))))))=some c14∧(c14=false->(zpY p s line f gap=true∧5000≤D∧D≤20000)):=by
    cases hB:zkD p s with
    | false=>exact ⟨true,rfl,fun h=>by cases h⟩
    | true=>
    have V:=zqB hB;have hlh:=V.h;by_cases h1:line<0
    · exact ⟨true,by rw [decide_eq_true h1]; rfl,fun h=>by cases h⟩
    by_cases h2:line≥zn s.1
    · exact ⟨true,by rw [decide_eq_false h1,decide_eq_true h2]; rfl,fun h=>by cases h⟩
    rw [zm] at h2;have a1:idx s.2.1 line=some (hd0 s line.toNat):=za1 (by omega) (by omega);have hz:∃ b,(Zb (idx s.2.1 line) fun x27=>some (decide (x27<30)))=some b∧(b=false↔¬ hd0 s line.toNat<30):=⟨_,by rw [a1]; rfl,by simp⟩;obtain ⟨b,g1,g2⟩:=zhm (A:=f<100) (zhm (A:=f>400) (zhm (A:=gap<1) (zhm (A:=gap>3600) (zhm (A:=D<5000) (zhm (A:=D>20000) hz)))));refine ⟨b,by rw [decide_eq_false h1,decide_eq_false (show ¬ line≥zn s.1 by rw [zm]; exact h2)]; exact g1,fun hb=>?_⟩;obtain ⟨x1,x2,x3,x4,x5,x6,x7⟩:=g2.1 hb;refine ⟨?_,by omega,by omega⟩;unfold zpY;rw [hB,zD.2 (show 0≤line∧line≤(s.1.length:Int)-1 by omega),zD.2 (show 100≤f∧f≤400 by omega),zD.2 (show 1≤gap∧gap≤3600 by omega)];rfl
  rw [g1,Zs];cases c14 with
  | true=>rfl
  | false=>
  obtain ⟨hsl,hD⟩:=g2 rfl;have S:=zvQ hsl;have V:=S.V;obtain ⟨a1,a2,a3⟩:=zs7 H S;have hl:=S.l;have hi:line.toNat<s.1.length:=by omega
  have K:=slK H S;have KC:znR p (lnI s line) (zI (lnI s line) home):=csO K;have hcn:=KC.C.n;rw [cond_false,zpZ H S home (show 0≤D∧D≤200000 by omega) hsl,Zs];cases hF:zkx p s line home f gap D with
  | none=>rfl
  | some k=>
  have hk1:k<7201∧frS p s line home f gap (D+(k:Int))=true:=by
    unfold zkx at hF;exact ⟨List.mem_range.1 (List.mem_of_find?_eq_some hF),List.find?_some (p:=fun k:Nat=>frS p s line home f gap (D+(k:Int))) hF⟩
  have hO:=zpQ (H.l line.toNat hi) home;have hvl:(zaP p&&zd5 p (ln0 s line.toNat))=true:=by rw [V.v,V.l line.toNat hi]; rfl
  rw [if_pos hvl] at hO;have hO:zav p (lnI s line) home=some (zfF (msC p (lnI s line) (zI (lnI s line) home)) (zI (lnI s line) home),0):=hO;have hR:=zjy (l:=lnI s line) (zbY V.v) ((H.l _ hi).c V.v home);have hml:=KC.M.n;have hll:(zn (zfF (msC p (lnI s line) (zI (lnI s line) home)) (zI (lnI s line) home))!=w64 (zn ((msC p (lnI s line) (zI (lnI s line) home)).map zep)+1))=false:=by
    rw [zm,zm,zgr,List.length_map,hml,zd (by omega) (by omega)];have:((zI (lnI s line) home).2.1.length:Int)=(((zI (lnI s line) home).2.1.length-1:Nat):Int)+1:=by omega
    rw [this]; exact bne_self_eq_false _
  have hll2:(zn (zfF (msC p (lnI s line) (zI (lnI s line) home)) (zI (lnI s line) home))==w64 (zn ((msC p (lnI s line) (zI (lnI s line) home)).map zep)+1))=true:=by
    unfold bne at hll;simpa using hll
  have hla:=zgY KC;have hw:w64 (D+7200)=D+7200:=zd (by omega) (by omega);have hloop:=zvp H S home (D:=D+(k:Int)) (by omega) hk1.2;unfold apO apF at hloop;simp only [show ((0:Int)!=0)=false from rfl,cond_false,a3,Zs,hO,hR,a1,hll,hll2,hla,hw,decide_eq_false (show ¬ D+(k:Int)<D by omega),decide_eq_false (show ¬ D+(k:Int)>D+7200 by omega),decide_eq_true (show D+(k:Int)≥D by omega),decide_eq_true (show D+(k:Int)≤D+7200 by omega),show ((0:Int)==0)=true from rfl,cond_true];cases home with
  | true=>
    simp only [cond_true];by_cases h2:zc4 p (lnI s line) (zI (lnI s line) true)>2000
    · rw [decide_eq_true h2]; rfl
    · rw [decide_eq_false h2];simp only [cond_false,Zs];rw [show (lnI s line).2.1.2.2.1=(zI (lnI s line) true).2.2.1 from rfl,hloop];rfl
  | false=>
    simp only [cond_false];by_cases h2:zc4 p (lnI s line) (zI (lnI s line) false)>2000
    · rw [decide_eq_true h2]; rfl
    · rw [decide_eq_false h2];simp only [cond_false,Zs];rw [show (lnI s line).1.2.2.1=(zI (lnI s line) false).2.2.1 from rfl,hloop];rfl
end Go.Ai.Sx
