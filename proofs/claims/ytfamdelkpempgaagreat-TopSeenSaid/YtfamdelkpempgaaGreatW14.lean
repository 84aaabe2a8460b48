/- Tracks: which moves follow; ways and their lengths. -/
import Derived.Test.YtfamdelkpempgaaGreatW13
set_option linter.unusedSimpArgs false
set_option linter.unusedVariables false
set_option linter.unusedSectionVars false
open Option renaming some→Ob,none→Oe
open Bool renaming false→Oc,true→Od
open Option renaming bind->Zb,bind_some->Zs
namespace Go.Ai.Sx
def zjF (m:zL):zl:=(m.1,!m.2.1,())
def zca (p:Plan) (m:zL):zcw:=nd p (atS p (zjF m))
def zoD (p:Plan) (m:zL):Int:=((zca p m).2.2.1.idxOf (zjF m):Nat)
def zdM (p:Plan) (m k:zL):Bool:=(zca p m).2.2.1.zipIdx.any λy=>zji (zca p m) (zoD p m) (y.2:Int)&&y.1==k
def zue (e:zl):Int:=if e.2.1 then 2*e.1+1 else 2*e.1
def zrF (n:Int):zL:=(n/2,n%2==1,())
theorem zql {e:zl} (h:0<=e.1):zrF (zue e)=e:=by
 obtain ⟨r,b,⟨⟩⟩:=e;unfold zrF zue;simp only [] at h;cases b with
 | false=>
  simp only [Bool.false_eq_true,if_false];rw [show 2*r/2=r by omega,show 2*r%2=0 by omega]; rfl
 | true=>
  simp only [if_true];rw [show (2*r+1)/2=r by omega,show (2*r+1)%2=1 by omega]; rfl
theorem zta {e:zl} (h:0<=e.1/\e.1<1000):zdX (e.1,e.2.1,())=Ob (zue e):=by
 unfold zdX zue;simp only [];cases e.2.1 with
 | false=>
  simp only [cond_false,Bool.false_eq_true,if_false];rw [zf J J]
 | true=>
  simp only [cond_true,if_true];rw [zf (n:=2*e.1) J J,zf J J]
theorem zyz {n:Int} (h:0<=n/\n<10000):zfg n=Ob (zrF n):=by
 unfold zfg;rw [zcx J J,Zs];unfold zq6;rw [if_neg J,Zs,Int.tmod_eq_emod_of_nonneg h.1];rfl
section
variable {p:Plan} (hp:ziH p) {m:zL} (hm:0<=m.1/\m.1<p.2.1.length)
include hp hm
theorem zoe:0<=atS p (zjF m)/\atS p (zjF m)<p.1.length:=hp.at_bd (e:=zjF m) hm
theorem zkQ:nodeB (zca p m)=Od:=hp.nodeB (zoe hp hm)
theorem zpo:zjF m∈(zca p m).2.2.1:=hp.mem (e:=zjF m) hm
theorem zwv:0<=zoD p m/\zoD p m<(zca p m).2.2.1.length/\zoD p m<=10:=by
 have h1:=List.idxOf_lt_length_iff.2 (zpo hp hm);have h2:=zfh (zkQ hp hm);unfold zoD;omega
theorem zj0 {e:zl} (he:e∈(zca p m).2.2.1):0<=e.1/\e.1<p.2.1.length:=by
 have hb:=zoe hp hm;have h:=hp.at_ (atS p (zjF m)).toNat J;unfold zca at he;rw [hp.nd_eq hb] at he;exact (h e he).1
theorem ztb:mget (plS p) (zjF m)=Ob (zoD p m):=by
 have hb:=zoe hp hm;have h1:=List.idxOf_lt_length_iff.2 (zpo hp hm);have hn:zca p m=p.1[(atS p (zjF m)).toNat]'J:=hp.nd_eq hb;have h2:=zyw hp (i:=(atS p (zjF m)).toNat) (k:=(zca p m).2.2.1.idxOf (zjF m)) J (by rw [← hn]; exact h1);have h3:(p.1[(atS p (zjF m)).toNat]'J).2.2.1[(zca p m).2.2.1.idxOf (zjF m)]'(by rw [← hn]; exact h1)=zjF m:=by
  simp only [← hn];exact List.getElem_idxOf h1
 rw [h3] at h2;exact h2
def zmO (p:Plan) (m:zL):List Int:=((zca p m).2.2.1.zipIdx.filter λy=>zji (zca p m) (zoD p m) (y.2:Int)).map λy=>zue y.1
omit hm hp in
theorem ztc:(zmO p m).length<=(zca p m).2.2.1.length:=by
 unfold zmO;rw [List.length_map];have:=List.length_filter_le (λy:zl×Nat=>zji (zca p m) (zoD p m) (y.2:Int)) (zca p m).2.2.1.zipIdx;rw [List.length_zipIdx] at this;exact this
theorem zvK {n:Int} (h:n∈zmO p m):0<=n/\n<10000:=by
 unfold zmO at h;obtain ⟨y,hy,rfl⟩:=List.mem_map.1 h;have h1:=(List.mem_filter.1 hy).1;have h2:=zj0 hp hm (e:=y.1) (List.fst_mem_of_mem_zipIdx h1);have hR:=hp.r;unfold zue;split<;>omega
theorem ztd:iter (σ:=(List Int×Int)) (τ:=List Int) (λs20=>
cond (decide (s20.2<zp (zca p m).2.2.1)) (Zb (idx (zca p m).2.2.1 s20.2) λx23=>
Zb (zeA m) λy27=>
Zb (zby ((zca p m,()):zaG) ((mget (zpm p).2.2.1 y27).getD 0) s20.2) λy28=>
cond y28 (Zb (zdX ((x23.1,x23.2.1,()):zL)) λy30=>
Zb (zde 8 s20.1 ([y30])) λx31=>
Ob (.inl (x31,w64 (s20.2+1)))) (Ob (.inl (s20.1,w64 (s20.2+1))))) (Ob (.inr s20.1))) big ([],0)=Ob (zmO p m):=by
 have hR:=hp.r;have hes:=zfh (zkQ hp hm);have hpb:=zwv hp hm;rw [zc2 (s0:=(([]:List Int),(0:Int))) (zca p m).2.2.1 (λk c=>(c,(k:Int))) (λk c e=>(.inl (if zji (zca p m) (zoD p m) (k:Int) then c++[zue e] else c):List Int⊕List Int)) id (λk c=>c.length<=k) [] rfl J Ol]
 ·rw [zkK (λk c e=>if zji (zca p m) (zoD p m) (k:Int) then c++[zue e] else c) id];unfold zmO;have key:∀ (L:List (zl×Nat)) (c:List Int),L.foldl (λc y=>if zji (zca p m) (zoD p m) (y.2:Int) then c++[zue y.1] else c) c=c++(L.filter λy=>zji (zca p m) (zoD p m) (y.2:Int)).map λy=>zue y.1:=by
   intro L;induction L with
   | nil=>intro c; simp
   | cons y L ih=>
    intro c;rw [List.foldl_cons,ih,List.filter_cons];cases zji (zca p m) (zoD p m) (y.2:Int) with
    | true=>simp
    | false=>simp
  rw [key,List.nil_append]; rfl
 ·intro k hk c hc;simp only [];refine ⟨?_,λb' hb=>?_⟩
  ·have he:=zj0 hp hm (List.getElem_mem hk);rw [zQ hk,cond_true,zbY hk,Zs];show Zb (Ob (zjF m)) _=_;rw [Zs];have hpl:(zpm p).2.2.1=plS p:=rfl;rw [hpl,ztb hp hm,Option.getD_some,zyy (zkQ hp hm) ⟨hpb.1,hpb.2.2⟩ J,Zs,zta (e:=(zca p m).2.2.1[k]) ⟨he.1,by omega⟩,Zs,zaK (by simp only [List.length_singleton]; omega),Zs,zy J];cases zji (zca p m) (zoD p m) (k:Int)<;>rfl
  ·cases hb;split
   ·rw [List.length_append,List.length_singleton]; omega
   ·omega
 ·intro c _;simp only [];rw [zS,cond_false]; rfl
theorem zrm (k:zL):za2 (zpm p) m k=Ob (zdM p m k):=by
  have hb:=zoe hp hm;have hes:=zfh (zkQ hp hm);have hlen:=ztc (p:=p) (m:=m);obtain ⟨ys,hy,hperm⟩:=zs9 (xs:=zmO p m) J;unfold za2 zcU zbL;rw [Zs];simp only [];show Zb (Zb (Ob (zjF m)) _) _=_;rw [Zs];have hend:=(ziF (p:=(zpm p).1) (e:=zjF m) hm).1;have hpl:atS (zpm p).1 (zjF m)=atS p (zjF m):=rfl;rw [hend,Zs,hpl];have hn:idx (zpm p).1.1 (atS p (zjF m))=Ob (zca p m):=zd7 (l:=p.1) (d:=N0) hb.1 hb.2;rw [hn,Zs,ztd hp hm,Zs,hy,Zs];have hys:∀ n∈ys,0<=n/\n<10000:=λn h=>zvK hp hm (hperm.mem_iff.1 h);have hyl:ys.length<=4:=by have:=hperm.length_eq; omega
  have key:iter (σ:=(Int×(Bool⊕Bool))) (τ:=(Bool⊕Bool)⊕(Bool⊕Bool)) (λs50=>
cond (decide (s50.1<zp ys)) (Zb (idx ys s50.1) λx53=>
Zb (zfg x53) λy54=>
Zb (goL s50.2) λs55=>
Zb (cond (y54==k) (Ob (.inr Od)) (Ob (.inl s55))) λy56=>
cond (!(y56).isLeft) (Ob (.inr (.inr y56))) (Ob (.inl (w64 (s50.1+1),y56)))) (Ob (.inr (.inl s50.2)))) big (0,(.inl Oc))=Ob (if ys.any (λn=>zrF n==k) then .inr (.inr Od) else .inl (.inl Oc)):=by
    rw [zc2 (s0:=((0:Int),(Sum.inl Oc:Bool⊕Bool))) ys (λi (_:Unit)=>((i:Int),(Sum.inl Oc:Bool⊕Bool))) (λ_ _ n=>if zrF n==k then .inr (.inr (.inr Od)) else .inl ()) (λ_=>.inl (.inl Oc)) (λ_ _=>True) () rfl J trivial]
    · congr 1;have:∀ (l:List Int) (i:Nat),zfz (λ_ (_:Unit) n=>if zrF n==k then .inr (.inr (.inr Od)) else .inl ()) (λ_=>.inl (.inl Oc)) l i ()=(if l.any (λn=>zrF n==k) then .inr (.inr Od) else .inl (.inl Oc):(Bool⊕Bool)⊕(Bool⊕Bool)):=by
        intro l;induction l with
        | nil=>intro i; rfl
        | cons n l ih=>
          intro i;rw [zfz,List.any_cons];cases h:(zrF n==k) with
          | true=>rfl
          | false=>
            simp only [Bool.false_eq_true,if_false,Bool.false_or];exact ih (i+1)
      exact this ys 0
    · intro i hi _ _;refine ⟨?_,λ_ _=>trivial⟩;simp only [];rw [zQ hi,cond_true,zbY hi,Zs,zyz (hys _ (List.getElem_mem hi)),Zs,zy J];cases (zrF ys[i]==k)<;>rfl
    · intro _ _;simp only [];rw [zS,cond_false]
  rw [key];have hany:ys.any (λn=>zrF n==k)=zdM p m k:=by
    have h1:ys.any (λn=>zrF n==k)=(zmO p m).any (λn=>zrF n==k):=by
      rw [Bool.eq_iff_iff,List.any_eq_true,List.any_eq_true];constructor
      · rintro ⟨n,h,q⟩; exact ⟨n,hperm.mem_iff.1 h,q⟩
      · rintro ⟨n,h,q⟩; exact ⟨n,hperm.mem_iff.2 h,q⟩
    rw [h1];unfold zmO zdM;rw [Bool.eq_iff_iff,List.any_eq_true,List.any_eq_true];constructor
    · rintro ⟨n,h,q⟩
      obtain ⟨y,hy,rfl⟩:=List.mem_map.1 h;obtain ⟨hy1,hy2⟩:=List.mem_filter.1 hy;rw [zql (zj0 hp hm (List.fst_mem_of_mem_zipIdx hy1)).1] at q;exact ⟨y,hy1,by rw [hy2,q]; rfl⟩
    · rintro ⟨y,h,q⟩
      rw [Bool.and_eq_true] at q;refine ⟨zue y.1,List.mem_map.2 ⟨y,List.mem_filter.2 ⟨h,q.1⟩,rfl⟩, ?_⟩;rw [zql (zj0 hp hm (List.fst_mem_of_mem_zipIdx h)).1];exact q.2
  rw [hany];cases zdM p m k<;>rfl
omit hp hm in
theorem zof (n:zcw) (e:zl) (hl:n.2.2.1.length<=1000):zdJ n e=Ob (if e∈n.2.2.1 then ((n.2.2.1.idxOf e:Nat):Int) else -1):=by
  unfold zdJ;have key:∀ (k i:Nat),i+k=n.2.2.1.length->Lp (λs5:Int=>
cond (decide (s5<zp n.2.2.1)) (Zb (idx n.2.2.1 s5) λx9=>
cond (x9==e) (Ob (Sum.inr (Sum.inr s5:Unit⊕Int))) (Ob (.inl (w64 (s5+1))))) (Ob (.inr (.inl ())))) k (i:Int) (if e∈n.2.2.1.drop i then .inr ((i+(n.2.2.1.drop i).idxOf e:Nat):Int) else .inl ()):=by
    intro k;induction k with
    | zero=>
      intro i hi;have:i=n.2.2.1.length:=J
      subst this;rw [List.drop_length,if_neg Ol];exact Lp.done (by simp only [zS,cond_false])
    | succ k ih=>
      intro i hi;have hlt:i<n.2.2.1.length:=J
      rw [List.drop_eq_getElem_cons hlt];by_cases hx:n.2.2.1[i]=e
      · rw [if_pos (by rw [hx]; exact List.mem_cons_self),hx,List.idxOf_cons_self];refine Lp.done ?_;rw [zQ hlt,cond_true,zbY hlt,Zs,hx,beq_self_eq_true]; rfl
      · have hb:(n.2.2.1[i]==e)=Oc:=by simpa using hx
        have h2:=ih (i+1) J;have hmem:(e∈n.2.2.1[i]::n.2.2.1.drop (i+1))↔e∈n.2.2.1.drop (i+1):=by
          rw [List.mem_cons];exact ⟨λh=>h.resolve_left (λq=>hx q.symm),.inr⟩
        have hix:(n.2.2.1[i]::n.2.2.1.drop (i+1)).idxOf e=(n.2.2.1.drop (i+1)).idxOf e+1:=by rw [List.idxOf_cons,hb,cond_false]
        rw [hix];have e2:(if e∈n.2.2.1[i]::n.2.2.1.drop (i+1) then (Sum.inr ((i+((n.2.2.1.drop (i+1)).idxOf e+1):Nat):Int):Unit⊕Int) else .inl ())=if e∈n.2.2.1.drop (i+1) then .inr ((i+1+(n.2.2.1.drop (i+1)).idxOf e:Nat):Int) else .inl ():=by
          by_cases q:e∈n.2.2.1.drop (i+1)
          · rw [if_pos (hmem.2 q),if_pos q,show i+((n.2.2.1.drop (i+1)).idxOf e+1)=i+1+(n.2.2.1.drop (i+1)).idxOf e by omega]
          · rw [if_neg (λw=>q (hmem.1 w)),if_neg q]
        rw [e2];refine Lp.step (s':=((i+1:Nat):Int)) ?_ h2;rw [zQ hlt,cond_true,zbY hlt,Zs,hb,cond_false,zy J]
  have h0:=key n.2.2.1.length 0 J;rw [show ((0:Nat):Int)=0 from rfl,List.drop_zero] at h0;rw [h0.big Of,Zs];by_cases q:e∈n.2.2.1
  · rw [if_pos q,if_pos q,zjf,Nat.zero_add]
  · rw [if_neg q,if_neg q,zbw]
theorem zpp (k:zL):zcX p m k=Ob (zdM p m k):=by
 have hb:=zoe hp hm;have hok:=zkQ hp hm;have hes:=zfh hok;have hpb:=zwv hp hm;unfold zcX;show Zb (Ob (zjF m)) _=_;rw [Zs,(ziF (p:=p) (e:=zjF m) hm).2,Zs];have hn:idx p.1 (atS p (zjF m))=Ob (zca p m):=zd7 (l:=p.1) (d:=N0) hb.1 hb.2;rw [hn,Zs];show Zb (Ob (zjF m)) _=_;rw [Zs,zof _ _ J,if_pos (zpo hp hm),Zs];show Zb (Ob (k:zl)) _=_;rw [Zs,zof _ _ J];have hpos:(((zca p m).2.2.1.idxOf (zjF m):Nat):Int)=zoD p m:=rfl;rw [hpos,decide_eq_true (show zoD p m>=0 from hpb.1)];simp only [cond_true,Zs];have hndp:(zca p m).2.2.1.Nodup:=hp.ndn hb;by_cases hk:(k:zl)∈(zca p m).2.2.1
 . have hlt:=List.idxOf_lt_length_iff.2 hk;rw [if_pos hk,decide_eq_true (Int.natCast_nonneg _),cond_true,zvJ _ ⟨hpb.1,hpb.2.2⟩ J];simp only [Zs];congr 1;unfold zdM;rw [Bool.eq_iff_iff,List.any_eq_true];constructor
   . intro h;refine ⟨((k:zl),(zca p m).2.2.1.idxOf k),List.mem_zipIdx_iff_getElem?.2 (by rw [List.getElem?_eq_getElem hlt,List.getElem_idxOf]), ?_⟩;rw [Bool.and_eq_true];exact ⟨h,by simp⟩
   . rintro ⟨⟨e,j⟩,h1,h2⟩
     rw [Bool.and_eq_true,beq_iff_eq] at h2;obtain ⟨h2,h3⟩:=h2;simp only [] at h2 h3;subst h3;have hj:=List.mem_zipIdx_iff_getElem?.1 h1;obtain ⟨hj1,hj2⟩:=List.getElem?_eq_some_iff.1 hj;have:(zca p m).2.2.1.idxOf e=j:=by
      have h4:=List.getElem_idxOf hlt;exact (List.getElem_inj hndp).1 (h4.trans hj2.symm)
     rw [this];exact h2
 . rw [if_neg hk];have:zdM p m k=Oc:=by
    unfold zdM;rw [List.any_eq_false]
    rintro ⟨e,j⟩ h1 h2
    rw [Bool.and_eq_true,beq_iff_eq] at h2;exact hk (h2.2▸List.fst_mem_of_mem_zipIdx h1)
   rw [this];rfl
end
def zrn (p:Plan) (m:zL):Bool:=inB m.1 0 (p.2.1.length-1)
def M0:zL:=(0,Oc,())
def zkR (p:Plan) (l:List zL) (i:Nat):Bool:=zrn p (l.getD i M0)&&(decide (i=0)||zdM p (l.getD (i-1) M0) (l.getD i M0))
def zkS (p:Plan) (l:List zL):Bool:=(List.range l.length).all (zkR p l)&&inB (zp l) 1 2000
def wlS (p:Plan) (l:List zL):Int:=ziD (λi=>zgl p (l.getD i M0).1) 0 l.length
theorem ziI {p:Plan} {m:zL}:zrn p m=Od↔0<=m.1/\m.1<p.2.1.length:=by
 unfold zrn;rw [zar];omega
section
variable {p:Plan} (hp:ziH p)
include hp
theorem zmP {l:List zL} (hl:l.length<=9223372036854775807) {has:zL->Option Bool} {fol:zL->zL->Option Bool} (hh:∀ m,has m=Ob (zrn p m)) (hf:∀ m k:zL,0<=m.1/\m.1<(p.2.1.length:Int)->fol m k=Ob (zdM p m k))
    {F:Int->Option (Int⊕(Unit⊕Bool))} (hF:∀ (i:Nat) (_:i<l.length),F i=Zb (has (l.getD i M0)) λy37=>cond (!y37) (Ob (.inr (.inr Oc))) (cond (decide ((i:Int)>0)) (Zb (fol (l.getD (i-1) M0) (l.getD i M0)) λy42=>cond (!y42) (Ob (.inr (.inr Oc))) (Ob (.inl (w64 ((i:Int)+1))))) (Ob (.inl (w64 ((i:Int)+1))))))
    (he:F l.length=Ob (.inr (.inl ()))):∀ (k i:Nat),i+k=l.length->(∀ j,j<i->zrn p (l.getD j M0)=Od)->Lp F k (i:Int) (if (List.range' i k).all (zkR p l) then .inl () else .inr Oc)
  | 0,i,hi,_=>by
    have:i=l.length:=J
    subst this;exact Lp.done he
  | k+1,i,hi,hj=>by
    have hlt:i<l.length:=J
    rw [List.range'_succ,List.all_cons];cases hs:zrn p (l.getD i M0) with
    | false=>
      have:zkR p l i=Oc:=by unfold zkR; rw [hs]; rfl
      rw [this];refine Lp.done ?_;rw [hF i hlt,hh,hs]; rfl
    | true=>
      have hj':∀ j,j<i+1->zrn p (l.getD j M0)=Od:=λj h=>by
        by_cases e:j=i
        · rw [e]; exact hs
        · exact hj j J
      have ih:=zmP hl hh hf hF he k (i+1) J hj';by_cases h0:i=0
      · subst h0;have:zkR p l 0=Od:=by unfold zkR; rw [hs]; rfl
        rw [this,Bool.true_and];refine Lp.step (s':=((0+1:Nat):Int)) ?_ ih;rw [hF 0 hlt,hh,hs]; rfl
      · have hw:zkR p l i=zdM p (l.getD (i-1) M0) (l.getD i M0):=by unfold zkR; rw [hs,decide_eq_false h0]; rfl
        rw [hw];have hprev:=ziI.1 (hj (i-1) J);have hFi:F i=cond (!zdM p (l.getD (i-1) M0) (l.getD i M0)) (Ob (.inr (.inr Oc))) (Ob (.inl ((i+1:Nat):Int))):=by
          rw [hF i hlt,hh,hs,decide_eq_true (show (i:Int)>0 by omega),hf _ _ hprev,zy J]; rfl
        cases hb:zdM p (l.getD (i-1) M0) (l.getD i M0) with
        | false=>
          rw [hb] at hFi;rw [Bool.false_and];exact Lp.done hFi
        | true=>
          rw [hb] at hFi;rw [Bool.true_and];exact Lp.step hFi ih
theorem zww (m:zL):zbP (zpm p) m=Ob (zrn p m):=by
 unfold zbP;rw [twithin,Zs];have:w64 (zp (zpm p).1.2.1-1)=p.2.1.length-1:=wrails hp.r;rw [this]; rfl
theorem zvL (m:zL):ze9 p m=Ob (zrn p m):=by
 unfold ze9;rw [zsZ,Zs,wrails hp.r]; rfl
theorem zte {l:List zL} (hl:l.length<=9223372036854775807):zbQ (zpm p) l=Ob (zkS p l):=by
  unfold zbQ;have hL:=zmP hp hl (λm=>zww hp m) (λm k hm=>zrm hp hm k) (F:=λs22=>
cond (decide (s22<zp l)) (Zb (idx l s22) λx25=>
Zb (zbP (zpm p) x25) λy37=>
cond (!y37) (Ob (.inr (.inr Oc))) (cond (decide (s22>0)) (Zb (idx l (w64 (s22-1))) λx41=>
Zb (za2 (zpm p) x41 x25) λy42=>
cond (!y42) (Ob (.inr (.inr Oc))) (Ob (.inl (w64 (s22+1))))) (Ob (.inl (w64 (s22+1)))))) (Ob (.inr (.inl ())))) (λi hi=>by
      rw [zQ hi,cond_true,zo M0 hi,Zs];by_cases h0:i=0
      · subst h0; rfl
      · rw [decide_eq_true (show (i:Int)>0 by omega),zf (n:=(i:Int)-1) J J,show (i:Int)-1=((i-1:Nat):Int) by omega,zo M0 (show i-1<l.length by omega)];rfl) (by simp only [zS,cond_false]) l.length 0 J (λj hj=>by omega)
  rw [show ((0:Nat):Int)=0 from rfl] at hL;rw [hL.big Of,Zs,← List.range_eq_range'];unfold zkS;cases (List.range l.length).all (zkR p l) with
  | false=>rfl
  | true=>simp only [if_true,zbw,twithin]; rfl
theorem ztf {l:List zL} (hl:l.length<=9223372036854775807):zeV p l=Ob (zkS p l):=by
  unfold zeV;have hL:=zmP hp hl (λm=>zvL hp m) (λm k hm=>zpp hp hm k) (F:=λs26=>
cond (decide (s26<zp l)) (Zb (idx l s26) λx43=>
Zb (ze9 p x43) λy44=>
cond (!y44) (Ob (.inr (.inr Oc))) (cond (decide (s26>0)) (Zb (idx l (w64 (s26-1))) λx48=>
Zb (idx l s26) λx49=>
Zb (zcX p x48 x49) λy50=>
cond (!y50) (Ob (.inr (.inr Oc))) (Ob (.inl (w64 (s26+1))))) (Ob (.inl (w64 (s26+1)))))) (Ob (.inr (.inl ())))) (λi hi=>by
      rw [zQ hi,cond_true,zo M0 hi,Zs];by_cases h0:i=0
      · subst h0; rfl
      · rw [decide_eq_true (show (i:Int)>0 by omega),zf (n:=(i:Int)-1) J J,show (i:Int)-1=((i-1:Nat):Int) by omega,zo M0 (show i-1<l.length by omega)];rfl) (by simp only [zS,cond_false]) l.length 0 J (λj hj=>by omega)
  rw [show ((0:Nat):Int)=0 from rfl] at hL;rw [hL.big Of,Zs,← List.range_eq_range'];unfold zkS;cases (List.range l.length).all (zkR p l) with
  | false=>rfl
  | true=>simp only [if_true,zbw,zsZ]; rfl
structure zhH (p:Plan) (l:List zL):Prop where
 n:1<=l.length/\l.length<=2000
 m:∀ i,i<l.length->0<=(l.getD i M0).1/\(l.getD i M0).1<p.2.1.length
omit hp in
theorem zfZ {l:List zL} (h:zkS p l=Od):zhH p l:=by
 unfold zkS at h;rw [Bool.and_eq_true,zar,zq] at h;refine ⟨by omega,λi hi=>?_⟩;have:=List.all_eq_true.1 h.1 i (List.mem_range.2 hi);unfold zkR at this;rw [Bool.and_eq_true] at this;exact ziI.1 this.1
theorem zh7 {i:Int} (hi:0<=i/\i<p.2.1.length):1<=zgl p i/\zgl p i<=31000000:=hp.len hi
theorem zCw {l:List zL} (h:zhH p l):0<=wlS p l/\wlS p l<=31000000*l.length:=
 zjh _ _ λi _ hi=>by have:=zh7 hp (h.m i J); omega
theorem ztg {l:List zL} (h:zhH p l) {lg:zL->Option Int} (hg:∀ m:zL,0<=m.1/\m.1<p.2.1.length->lg m=Ob (zgl p m.1)):iter (σ:=(Int×Int)) (τ:=Int) (λs6=>
cond (decide (s6.2<zp l)) (Zb (idx l s6.2) λx9=>
Zb (lg x9) λx12=>
Ob (.inl (w64 (s6.1+x12),w64 (s6.2+1)))) (Ob (.inr s6.1))) big (0,0)=Ob (wlS p l):=by
  have hn:=h.n;have hL:=zmI (B:=31000000) (N:=l.length) (f:=λi=>zgl p (l.getD i M0).1) (F:=λs6:Int×Int=>
cond (decide (s6.2<zp l)) (Zb (idx l s6.2) λx9=>
Zb (lg x9) λx12=>
Ob (.inl (w64 (s6.1+x12),w64 (s6.2+1)))) (Ob (.inr s6.1))) J J J (λi hi=>by have:=zh7 hp (h.m i hi); omega) l.length 0 0 J J J (λi s _ hi=>by
      simp only [];rw [zQ hi,cond_true,zo M0 hi,Zs,hg _ (h.m i hi),Zs]) (λs=>by simp only [zS,cond_false])
  rw [show ((0:Nat):Int)=0 from rfl,Int.zero_add] at hL;exact hL.big Of
theorem zpq {i:Int} (hi:0<=i/\i<p.2.1.length):idx (zpm p).2.1 i=Ob (zgl p i):=by
 show idx ((List.range p.2.1.length).map λi:Nat=>zgl p (i:Int)) i=_;rw [zsP hi.1 (by rw [List.length_map,List.length_range]; exact hi.2)];simp only [List.getElem_map,List.getElem_range];rw [Int.toNat_of_nonneg hi.1]
theorem zwx {l:List zL} (h:zhH p l):zaN (zpm p) l=Ob (wlS p l):=by
 unfold zaN;rw [ztg hp h (lg:=λx9=>idx (zpm p).2.1 x9.1) (λm hm=>zpq hp hm)]; rfl
theorem zjj {i:Int} (hi:0<=i/\i<p.2.1.length):zaM p i=Ob (zgl p i):=zrj hi (hp.ix hi) (hp.spots hi).1
theorem zwy {l:List zL} (h:zhH p l):zcm p l=Ob (wlS p l):=by
 unfold zcm;rw [ztg hp h (lg:=λx9=>zaM p x9.1) (λm hm=>zjj hp hm)]; rfl
end
theorem zjG (p:Plan) {l:List zL} (hl:l.length<=9223372036854775807):zco p l=Ob (if zaV p&&zkS p l then (wlS p l,0) else (0,2)):=by
 unfold zco;rw [zpn];cases hv:zaV p with
 | false=>rfl
 | true=>
  have hp:=zdd hv;simp only [if_true,Zs,Bool.not_true,cond_false,zte hp hl,Bool.true_and];cases hw:zkS p l with
  | false=>rfl
  | true=>
   simp only [Bool.not_true,cond_false,zwx hp (zfZ hw),if_true,Zs]
theorem zog (p:Plan) (i:Int):zbb p i=Ob (if zaV p&&zrn p (i,Oc,()) then (zgl p i,0) else (0,2)):=by
 unfold zbb;rw [zpn];cases hv:zaV p with
 | false=>rfl
 | true=>
  have hp:=zdd hv;simp only [if_true,Zs,Bool.not_true,cond_false,zww hp,Bool.true_and];cases hw:zrn p (i,Oc,()) with
  | false=>rfl
  | true=>
   have hi:=ziI.1 hw;simp only [Bool.not_true,cond_false,zpq hp hi,if_true,Zs]
theorem zvM (a b:Int):zbc a b=Ob (decide (a<b)):=by
 unfold zbc;simp only [zbr,Zs,bne_self_eq_false,cond_false]
theorem zvN {a b:Int} (h:0<=a+b/\a+b<4611686018427387904):zjC .u64 (IntKind.u64.wrap (w64 (a+b))) 1=Ob ((a+b)/2)/\w64 ((a+b)/2)=(a+b)/2:=by
 have e1:w64 (a+b)=a+b:=zf J J;have e2:IntKind.u64.wrap (a+b)=a+b:=by simp only [IntKind.wrap,IntKind.bits,IntKind.signed]; simp; omega
 rw [e1,e2];unfold zjC;rw [if_pos J];refine ⟨?_,zf J J⟩;congr 1;simp [IntKind.bits];rw [Int.fdiv_eq_ediv_of_nonneg _ J]
def Rising (xs:List Int):Prop:=∀ i j,i<j->j<xs.length->xs.getD i 0<xs.getD j 0
theorem bsearch {xs:List Int} (hr:Rising xs) (hl:xs.length<=1000000) (t:Int):∃ (i:Nat) (b:Bool),zO xs t=Ob ((i:Int),b)/\i<=xs.length/\(∀ j,j<i->xs.getD j 0<t)/\∀ j,i<=j->j<xs.length->t<=xs.getD j 0:=by
  have hT:Tot (λr:Int=>∃ i:Nat,r=(i:Int)/\i<=xs.length/\(∀ j,j<i->xs.getD j 0<t)/\∀ j,i<=j->j<xs.length->t<=xs.getD j 0) (iter (σ:=(Int×Int)) (τ:=Int) (λs6=>
cond (decide (s6.1<s6.2)) (Zb (zjC .u64 (IntKind.u64.wrap (w64 (s6.1+s6.2))) 1) λx9=>
Zb (idx xs (w64 x9)) λx10=>
Zb (zbc x10 t) λy11=>
cond y11 (Ob (.inl (w64 (w64 x9+1),s6.2))) (Ob (.inl (s6.1,w64 x9)))) (Ob (.inr s6.1))) big (0,zp xs)):=by
    refine Tot.iter (λs:Int×Int=>∃ lo hi:Nat,s=((lo:Int),(hi:Int))/\lo<=hi/\hi<=xs.length/\(∀ j,j<lo->xs.getD j 0<t)/\∀ j,hi<=j->j<xs.length->t<=xs.getD j 0) _ (λs=>(s.2-s.1).toNat) ⟨0,xs.length,rfl,by omega,by omega,λj hj=>by omega,λj h1 h2=>by omega⟩ (by simp only [zq,big]; omega) ?_
    rintro s ⟨lo,hi,rfl,h1,h2,h3,h4⟩
    simp only [];by_cases hlt:lo<hi
    · obtain ⟨e1,e2⟩:=zvN (a:=(lo:Int)) (b:=(hi:Int)) ⟨by omega,by omega⟩;obtain ⟨m,hm⟩:∃ m:Nat,((lo:Int)+hi)/2=(m:Int):=⟨(((lo:Int)+hi)/2).toNat,by omega⟩;rw [decide_eq_true (show (lo:Int)<hi by omega),cond_true,e1,Zs,e2,hm,zo 0 (show m<xs.length by omega),Zs,zvM,Zs];by_cases hc:xs.getD m 0<t
      · rw [decide_eq_true hc,cond_true,zy J];refine Tot.some ⟨⟨m+1,hi,rfl,by omega,h2,λj hj=>?_,h4⟩,by simp only []; omega⟩;by_cases e:j=m
        · rw [e]; exact hc
        · have:=hr j m J J; omega
      · rw [decide_eq_false hc,cond_false];refine Tot.some ⟨⟨lo,m,rfl,by omega,by omega,h3,λj hj hjl=>?_⟩,by simp only []; omega⟩;by_cases e:j=m
        · rw [e]; omega
        · have:=hr m j J hjl; omega
    · have:lo=hi:=J
      subst this;rw [decide_eq_false J,cond_false];exact Tot.some ⟨lo,rfl,by omega,h3,h4⟩
  obtain ⟨r,h1,i,rfl,h2,h3,h4⟩:=hT;have hb:∃ b:Bool,zO xs t=Ob ((i:Int),b):=by
    unfold zO;rw [h1,Zs];by_cases hlt:i<xs.length
    · rw [zQ hlt,cond_true,zo 0 hlt,Zs];cases (xs.getD i 0==t) with
      | true=>exact ⟨Od,rfl⟩
      | false=>
        simp only [cond_false,zdl,Zs,bne_self_eq_false];exact ⟨Oc,rfl⟩
    · rw [decide_eq_false (show ¬ (i:Int)<zp xs by rw [zq]; omega)];exact ⟨Oc,rfl⟩
  obtain ⟨b,hb⟩:=hb;exact ⟨i,b,hb,h2,h3,h4⟩
section
variable (p:Plan) (way:List zL)
def mvl (i:Nat):Int:=zgl p (way.getD i M0).1
def zak (i:Nat):Int:=ziD (mvl p way) 0 i
def zhQ (i:Nat):Rail:=rl0 p (way.getD i M0).1
def zlf (i:Nat):Int:=(zhQ p way i).2.2.2.1
def zhq (i:Nat):Int:=if (way.getD i M0).2.1 then -(zhQ p way i).2.2.2.2.1 else (zhQ p way i).2.2.2.2.1
def zgy:List Int:=rlN way.length λi=>zak p way (i+1)
def zoh:List Int:=rlN way.length (zlf p way)
def zoi:List Int:=rlN way.length (zhq p way)
end
theorem zoj (f:Nat->Int):∀ (k a:Nat),ziD f a (k+1)=ziD f a k+f (a+k)
 | 0,a=>by simp [ziD]
 | k+1,a=>by
  rw [ziD,zoj f k (a+1),ziD];rw [show a+1+k=a+(k+1) by omega];omega
theorem ze0 (p:Plan) (way:List zL) (i:Nat):zak p way (i+1)=zak p way i+mvl p way i:=by
 unfold zak;rw [zoj,Nat.zero_add]
theorem zgW {A:Type} (n:Nat) (f:Nat->A):(rlN n f).length=n:=by unfold rlN; simp
theorem zjk {A:Type} {n:Nat} {f:Nat->A} {i:Nat} (d:A) (h:i<n):(rlN n f).getD i d=f i:=by
 unfold rlN;simp [List.getD,h]
section
variable {p:Plan} {way:List zL} (hp:ziH p) (hw:zhH p way)
include hp hw
theorem zth {i:Nat} (hi:i<way.length):1<=mvl p way i/\mvl p way i<=31000000:=zh7 hp (hw.m i hi)
theorem zjl {i j:Nat} (h:i<j) (hj:j<=way.length):zak p way i<zak p way j:=by
 induction j with
 | zero=>omega
 | succ j ih=>
  have h1:=zth hp hw (i:=j) J;rw [ze0];by_cases e:i=j
  . subst e; omega
  . have:=ih J J; omega
theorem zdN {i:Nat} (hi:i<=way.length):0<=zak p way i/\zak p way i<=62000000000:=by
 have h1:=zjh (f:=mvl p way) (B:=31000000) i 0 (λj _ hj=>by have:=zth hp hw (i:=j) J; omega);have:=hw.n;unfold zak;omega
theorem zkT:Rising (zgy p way):=by
 intro i j h hj;unfold zgy at *
 rw [zgW] at hj;rw [zjk 0 J,zjk 0 hj];exact zjl hp hw J J
omit hp hw in
theorem zok:zak p way way.length=wlS p way:=rfl
theorem zmQ {i:Nat} (hi:i<way.length):(1<=zlf p way i/\zlf p way i<=50000)/\(-120<=zhq p way i/\zhq p way i<=120)/\idx p.2.1 (way.getD i M0).1=Ob (zhQ p way i):=by
 have hm:=hw.m i hi;have h1:=hp.rail hm;unfold ziE zmK at h1;simp only [Bool.and_eq_true,zar] at h1;obtain ⟨⟨_,_,_,h2,h3⟩,_⟩:=h1;refine ⟨h2, ?_,zd7 hm.1 hm.2⟩;unfold zhq zhQ;split<;>omega
end
def ixF (f:Nat->Bool):Nat->Nat->Nat
 | 0,i=>i
 | k+1,i=>if f i then i else ixF f k (i+1)
theorem zwz {f:Nat->Bool}:∀ {k i r:Nat},i<=r->r<=i+k->(∀ j,i<=j->j<r->f j=Oc)->(r<i+k->f r=Od)->ixF f k i=r
 | 0,i,r,h1,h2,_,_=>by unfold ixF; omega
 | k+1,i,r,h1,h2,h3,h4=>by
  unfold ixF;by_cases e:i=r
  . subst e;rw [if_pos (h4 J)]
  . rw [if_neg (by rw [h3 i (Nat.le_refl i) J]; simp)];exact zwz J J (λj h5 h6=>h3 j J h6) (λh5=>h4 J)
def zAj (p:Plan) (way:List zL) (f:Int):Nat:=ixF (λi=>decide (f<zak p way (i+1))) (way.length-1) 0
def zft (p:Plan) (way:List zL) (f:Int):Int:=zhq p way (zAj p way f)
theorem zti {p:Plan} {way:List zL} (h:1<=way.length) (f:Int):zAj p way f<way.length:=by
 have key:∀ (g:Nat->Bool) (k i:Nat),ixF g k i<=i+k:=by
  intro g k;induction k with
  | zero=>intro i; exact Nat.le_refl _
  | succ k ih=>
   intro i;unfold ixF;split
   . omega
   . have:=ih (i+1); omega
 have:=key (λi=>decide (f<zak p way (i+1))) (way.length-1) 0;unfold zAj;omega
def zj1 (p:Plan) (way:List zL) (t:Train) (st:Int) (stops:List Int):zaF:=((t,st,()),way,zgy p way,zoh p way,zoi p way,stops,())
section
variable {p:Plan} {way:List zL} {t:Train} {st:Int} {stops:List Int} {x:zd} (hp:ziH p) (hw:zhH p way) (ht:zk4 t) (hx:zqc t x)
include hp hw ht hx
theorem zol:0<=zF t x/\zF t x<=4000000000000000000:=by
 have hm:=ht.m;have h:=hx.w;unfold zF;have h1:0<=x.2.1/(10*t.1):=Int.ediv_nonneg h.1 J;have h2:x.2.1/(10*t.1)<=x.2.1:=Int.ediv_le_self _ h.1;omega
theorem zvO:zaT (zj1 p way t st stops) x=Ob (zft p way (zF t x)):=by
 have hn:=hw.n;have hpl:=zol hp hw ht hx;unfold zaT;show Zb (z6 (t,st,()) x) _=_;rw [(zhn ht hx st).1,Zs];have e1:x.2.1/(10*t.1)=zF t x:=rfl;rw [e1,zf (n:=zF t x+1) J J];show Zb (zO (zgy p way) (zF t x+1)) _=_;have hel:(zgy p way).length=way.length:=by unfold zgy; rw [zgW]
 obtain ⟨i,b,h1,h2,h3,h4⟩:=bsearch (zkT hp hw) J (zF t x+1);rw [h1,Zs];show Zb (idx (zoi p way) (min (i:Int) (w64 (zp (zoi p way)-1)))) _=_;have hsl:(zoi p way).length=way.length:=by unfold zoi; rw [zgW]
 rw [zq,hsl,zf J J];have hge:∀ j,j<way.length->(zgy p way).getD j 0=zak p way (j+1):=λj hj=>by unfold zgy; rw [zjk 0 hj]
 have hix:zAj p way (zF t x)=min i (way.length-1):=by
  unfold zAj;refine zwz J J (λj _ hj=>?_) (λhlt=>?_)
  . have:=h3 j J;rw [hge j J] at this;exact decide_eq_false J
  . have:=h4 (min i (way.length-1)) J J;rw [hge _ J] at this;exact decide_eq_true J
 have hmin:min (i:Int) ((way.length:Int)-1)=((min i (way.length-1):Nat):Int):=J
 rw [hmin,zo 0 J,Zs,← hix];unfold zoi zft;rw [zjk 0 (zti hn.1 _)]
theorem zhD (f:Int):-120<=zft p way f/\zft p way f<=120:=(zmQ hp hw (zti hw.n.1 f)).2.1
end
def zom (g:Nat->Bool) (v:Nat->Int):Nat->Nat->Int->Int
 | 0,_,b=>b
 | k+1,i,b=>zom g v k (i+1) (if g i then min b (v i) else b)
theorem zj2 (g:Nat->Bool) (v:Nat->Int) (l:Nat):∀ (k i:Nat) (b:Int),zom g v (k+l) i b=zom g v l (i+k) (zom g v k i b)
 | 0,i,b=>by rw [Nat.zero_add]; rfl
 | k+1,i,b=>by
  rw [show k+1+l=(k+l)+1 by omega,zom,zj2 g v l k (i+1),zom,show i+1+k=i+(k+1) by omega]
theorem zmR {g:Nat->Bool} {v:Nat->Int}:∀ (k i:Nat) (b:Int),(∀ j,i<=j->j<i+k->g j=Oc)->zom g v k i b=b
 | 0,_,_,_=>rfl
 | k+1,i,b,h=>by
  rw [zom,h i (Nat.le_refl i) J];exact zmR k (i+1) b λj h1 h2=>h j J J
def ovB (p:Plan) (way:List zL) (L f:Int) (i:Nat):Bool:=decide (f-L<zak p way (i+1))&&(decide (zak p way i<f)||decide (i=0))
def zm8 (p:Plan) (way:List zL) (t:Train) (f:Int):Int:=zom (ovB p way t.2.1 f) (zlf p way) way.length 0 t.2.2.1
section
variable {p:Plan} {way:List zL} {t:Train} {st:Int} {stops:List Int} {x:zd} (hp:ziH p) (hw:zhH p way) (ht:zk4 t)
include hp hw ht
theorem zvP {i j:Nat} (h:i<=j) (hj:j<=way.length):zak p way i<=zak p way j:=by
 by_cases e:i=j
 . subst e; omega
 . have:=zjl hp hw (i:=i) (j:=j) J hj; omega
theorem zvQ (hx:zqc t x):zcH (zj1 p way t st stops) x=Ob (zm8 p way t (zF t x)):=by
  have hn:=hw.n;have hl:=ht.len;have hpl:=zol hp hw ht hx;unfold zcH;show Zb (z6 (t,st,()) x) _=_;rw [(zhn ht hx st).1,Zs];have e1:x.2.1/(10*t.1)=zF t x:=rfl;rw [e1];show Zb (zO (zgy p way) (w64 (w64 (zF t x-t.2.1)+1))) _=_;rw [zf (n:=zF t x-t.2.1) J J,zf (n:=zF t x-t.2.1+1) J J];have hel:(zgy p way).length=way.length:=by unfold zgy; rw [zgW]
  have hll:(zoh p way).length=way.length:=by unfold zoh; rw [zgW]
  have hge:∀ j,j<way.length->(zgy p way).getD j 0=zak p way (j+1):=λj hj=>by unfold zgy; rw [zjk 0 hj]
  have hgl:∀ j,j<way.length->(zoh p way).getD j 0=zlf p way j:=λj hj=>by unfold zoh; rw [zjk 0 hj]
  obtain ⟨i0,b,h1,h2,h3,h4⟩:=bsearch (zkT hp hw) J (zF t x-t.2.1+1);rw [h1,Zs];have key:∀ (k i:Nat) (v:Int),i+k=way.length->i0<=i->(i=i0\/zak p way i<zF t x) ->
      Lp (λs8:Int×Int=>
cond (decide (s8.2<zp (zgy p way))) (Zb (idx (zoh p way) s8.2) λx11=>
Zb (idx (zgy p way) s8.2) λx12=>
cond (decide (x12>=zF t x)) (Ob (.inr (min s8.1 x11))) (Ob (.inl (min s8.1 x11,w64 (s8.2+1))))) (Ob (.inr s8.1))) k (v,(i:Int)) (zom (ovB p way t.2.1 (zF t x)) (zlf p way) k i v):=by
    intro k;induction k with
    | zero=>
      intro i v hi _ _;refine Lp.done ?_;have:i=(zgy p way).length:=J
      subst this;simp only [zS,cond_false];rfl
    | succ k ih=>
      intro i v hi hle hor;have hil:i<way.length:=J
      have hov:ovB p way t.2.1 (zF t x) i=Od:=by
        unfold ovB;have h5:=h4 i hle J;rw [hge i hil] at h5;rw [decide_eq_true J];have h6:i=0\/zak p way i<zF t x:=by
          rcases hor with rfl | h
          · by_cases e:i=0
            · exact .inl e
            · right;have h7:=h3 (i-1) J;rw [hge (i-1) J,show i-1+1=i by omega] at h7;omega
          · exact .inr h
        simp only [Bool.true_and,Bool.or_eq_true,decide_eq_true_eq];omega
      rw [zom,if_pos hov];by_cases hc:zak p way (i+1)>=zF t x
      · rw [zmR k (i+1) _ (λj h5 h6=>by
          have h7:=zvP hp hw ht (i:=i+1) (j:=j) h5 J;unfold ovB;rw [decide_eq_false (show ¬ zak p way j<zF t x by omega),decide_eq_false (show ¬ j=0 by omega)];simp)]
        refine Lp.done ?_;simp only [zQ (show i<(zgy p way).length by omega),cond_true];rw [zo 0 J,Zs,zo 0 J,Zs,hge i hil,hgl i hil,decide_eq_true hc,cond_true]
      · refine Lp.step ?_ (ih (i+1) _ J J (.inr J));simp only [zQ (show i<(zgy p way).length by omega),cond_true];rw [zo 0 J,Zs,zo 0 J,Zs,hge i hil,hgl i hil,decide_eq_false hc,cond_false,zy J]
  have hL:=key (way.length-i0) i0 t.2.2.1 J (Nat.le_refl _) (.inl rfl);have hR:zom (ovB p way t.2.1 (zF t x)) (zlf p way) (way.length-i0) i0 t.2.2.1=zm8 p way t (zF t x):=by
    unfold zm8;have hk:way.length=i0+(way.length-i0):=J
    rw [hk,zj2,zmR i0 0 _ (λj _ h6=>by
      have h7:=h3 j J;rw [hge j J] at h7;unfold ovB;rw [decide_eq_false J];rfl),Nat.zero_add,← hk]
  rw [hR] at hL;have hB:=hL.big Of;exact congrArg (λo=>Zb o λt14=>Ob t14) hB
theorem zgz {stop:Int} {f:Int} (hf:0<=f/\f<=4000000000000000000):zbe (p,way,t,st,stop,()) f=Ob (zft p way f):=by
  have hn:=hw.n;unfold zbe;have key:∀ (k i:Nat),i+k+1=way.length ->
      Lp (λs30:Int×Int=>
cond (decide (s30.2<zp way)) (Zb (idx way s30.2) λx35=>
Zb (zaM p x35.1) λy36=>
cond (decide (f<w64 (s30.1+y36))) (Zb (idx way s30.2) λx40=>
cond x40.2.1 (Zb (idx way s30.2) λx44=>
Zb (idx p.2.1 x44.1) λx45=>
Ob (.inr (.inr (w64 (0-x45.2.2.2.2.1))))) (Zb (idx way s30.2) λx48=>
Zb (idx p.2.1 x48.1) λx49=>
Ob (.inr (.inr x49.2.2.2.2.1)))) (cond (s30.2==w64 (zp way-1)) (Zb (idx way s30.2) λx51=>
cond x51.2.1 (Zb (idx way s30.2) λx55=>
Zb (idx p.2.1 x55.1) λx56=>
Ob (.inr (.inr (w64 (0-x56.2.2.2.2.1))))) (Zb (idx way s30.2) λx59=>
Zb (idx p.2.1 x59.1) λx60=>
Ob (.inr (.inr x60.2.2.2.2.1)))) (Ob (.inl (w64 (s30.1+y36),w64 (s30.2+1)))))) (Ob (.inr (.inl ())))) k (zak p way i,(i:Int)) (.inr (zhq p way (ixF (λi=>decide (f<zak p way (i+1))) k i)):Unit⊕Int):=by
    intro k;induction k with
    | zero=>
      intro i hi;have hil:i<way.length:=J
      obtain ⟨_,hs,hr⟩:=zmQ hp hw hil;refine Lp.done ?_;simp only [zQ hil,cond_true];have hlast:((i:Int)==w64 (zp way-1))=Od:=by
        rw [zq,zf J J]; simp; omega
      rw [zo M0 hil,Zs,zjj hp (hw.m i hil),Zs];simp only [Zs,hr,hlast,cond_true];have hv:cond (way.getD i M0).2.1 (Ob (Sum.inr (Sum.inr (w64 (0-(zhQ p way i).2.2.2.2.1)))):Option ((Int×Int)⊕(Unit⊕Int))) (Ob (Sum.inr (Sum.inr (zhQ p way i).2.2.2.2.1)))=Ob (Sum.inr (Sum.inr (zhq p way i))):=by
        unfold zhq at *
        cases h:(way.getD i M0).2.1 with
        | true=>
          rw [h] at hs;simp only [if_true] at hs;simp only [cond_true,if_true];rw [zf J J,Int.zero_sub]
        | false=>rfl
      rw [hv];cases decide (f<w64 (zak p way i+zgl p (way.getD i M0).1))<;>rfl
    | succ k ih=>
      intro i hi;have hil:i<way.length:=J
      obtain ⟨_,hs,hr⟩:=zmQ hp hw hil;have hb:=zdN hp hw (i:=i) J;have hb1:=zdN hp hw (i:=i+1) J;have hsx:=ze0 p way i;have hml:mvl p way i=zgl p (way.getD i M0).1:=rfl;have hlast:((i:Int)==w64 (zp way-1))=Oc:=by
        rw [zq,zf J J]; simp; omega
      have hwe:w64 (zak p way i+zgl p (way.getD i M0).1)=zak p way (i+1):=by
        rw [← hml,← hsx,zf J J]
      unfold ixF;by_cases hc:f<zak p way (i+1)
      · rw [if_pos (decide_eq_true hc)];refine Lp.done ?_;simp only [zQ hil,cond_true];rw [zo M0 hil,Zs,zjj hp (hw.m i hil),Zs];simp only [Zs,hr,hwe,decide_eq_true hc,cond_true];unfold zhq at *
        cases h:(way.getD i M0).2.1 with
        | true=>
          rw [h] at hs;simp only [if_true] at hs;simp only [cond_true,if_true];rw [zf J J,Int.zero_sub]
        | false=>rfl
      · rw [if_neg (by rw [decide_eq_true_eq]; exact hc)];refine Lp.step ?_ (ih (i+1) J);simp only [zQ hil,cond_true];rw [zo M0 hil,Zs,zjj hp (hw.m i hil),Zs];simp only [hlast,hwe,decide_eq_false hc,cond_false,zy (show i<9223372036854775807 by omega)]
  have hL:=(key (way.length-1) 0 J).big Of;have h0:zak p way 0=0:=rfl;rw [h0,show ((0:Nat):Int)=0 from rfl] at hL;exact congrArg (λo=>Zb o λt61:Unit⊕Int=>alt (λ_=>Ob 0) (λb64=>Ob b64) t61) hL
end
section
variable {p:Plan} {way:List zL} {t:Train} {st:Int} {stops:List Int} {x:zd} (hp:ziH p) (hw:zhH p way) (ht:zk4 t)
include hp hw ht
def zpr (p:Plan) (way:List zL) (t:Train) (f:Int) (k:Nat) (C:List Cover):Prop:=C.length<=k/\(∀ c∈C,0<=c.1/\c.1<(p.2.1.length:Int))/\∀ b:Int,C.foldl (λb c=>min b (rl0 p c.1).2.2.2.1) b=zom (ovB p way t.2.1 f) (zlf p way) k 0 b
omit hp hw ht in
theorem zvR {f:Int} {k:Nat} {C:List Cover} (h:zpr p way t f k C) (hg:ovB p way t.2.1 f k=Oc):zpr p way t f (k+1) C:=by
 obtain ⟨h1,h2,h3⟩:=h;refine ⟨by omega,h2,λb=>?_⟩;rw [h3,zj2 _ _ 1 k 0,zom,zom,Nat.zero_add,hg];rfl
omit hp ht in
theorem ztj {f:Int} {k:Nat} {C:List Cover} (h:zpr p way t f k C) (hk:k<way.length) (hg:ovB p way t.2.1 f k=Od) (a b:Int):zpr p way t f (k+1) (C++[((way.getD k M0).1,a,b,())]):=by
 obtain ⟨h1,h2,h3⟩:=h;refine ⟨by simp; omega,λc hc=>?_,λb=>?_⟩
 . rw [List.mem_append,List.mem_singleton] at hc;rcases hc with hc | rfl
   . exact h2 c hc
   . exact hw.m k hk
 rw [List.foldl_append,h3,zj2 _ _ 1 k 0,zom,zom,Nat.zero_add,if_pos hg];rfl
theorem ztk {f:Int} (hf:1<=f/\f<=4000000000000000000):∃ C,zdW p way f t.2.1=Ob C/\zpr p way t f way.length C:=by
  have hn:=hw.n;have hl:=ht.len;unfold zdW;have hT:=Tot.iter (σ:=(List Cover×Int×Int)) (τ:=List Cover) (f:=λs15=>
cond (decide (s15.2.2<zp way)) (Zb (idx way s15.2.2) λx20=>
Zb (zaM p x20.1) λy21=>
cond (decide (w64 (max (w64 (f-t.2.1)) s15.2.1-s15.2.1)>=w64 (min f (w64 (s15.2.1+y21))-s15.2.1))) (Ob (.inl (s15.1,w64 (s15.2.1+y21),w64 (s15.2.2+1)))) (Zb (idx way s15.2.2) λx23=>
cond x23.2.1 (Zb (idx way s15.2.2) λx25=>
Zb (zde 24 s15.1 ([((x25.1,w64 (y21-w64 (min f (w64 (s15.2.1+y21))-s15.2.1)),w64 (y21-w64 (max (w64 (f-t.2.1)) s15.2.1-s15.2.1)),()):Cover)])) λx26=>
Ob (.inl (x26,w64 (s15.2.1+y21),w64 (s15.2.2+1)))) (Zb (idx way s15.2.2) λx28=>
Zb (zde 24 s15.1 ([((x28.1,w64 (max (w64 (f-t.2.1)) s15.2.1-s15.2.1),w64 (min f (w64 (s15.2.1+y21))-s15.2.1),()):Cover)])) λx29=>
Ob (.inl (x29,w64 (s15.2.1+y21),w64 (s15.2.2+1)))))) (Ob (.inr s15.1)))
    (λs=>∃ (i:Nat) (C:List Cover),s=(C,zak p way i,(i:Int))/\i<=way.length/\zpr p way t f i C) (λC=>zpr p way t f way.length C) (λs=>way.length-s.2.2.toNat) (n:=big) (s:=([],0,0)) ⟨0,[],rfl,by omega,by simp,by simp,λb=>rfl⟩ Of (by
      rintro s ⟨i,C,rfl,hi,hC⟩
      simp only [];by_cases hil:i<way.length
      · have hb:=zdN hp hw (i:=i) J;have hb1:=zdN hp hw (i:=i+1) J;have hsx:=ze0 p way i;have hml:mvl p way i=zgl p (way.getD i M0).1:=rfl;have hmb:=zth hp hw hil;have hwe:w64 (zak p way i+zgl p (way.getD i M0).1)=zak p way (i+1):=by
          rw [← hml,← hsx,zf J J]
        rw [zQ hil,cond_true,zo M0 hil,Zs,zjj hp (hw.m i hil),Zs,hwe];rw [zf (n:=f-t.2.1) J J,zf (n:=max (f-t.2.1) (zak p way i)-zak p way i) J J,zf (n:=min f (zak p way (i+1))-zak p way i) J J];have hov:ovB p way t.2.1 f i=!decide (max (f-t.2.1) (zak p way i)-zak p way i>=min f (zak p way (i+1))-zak p way i):=by
          unfold ovB;have h0:i=0->zak p way i=0:=λh=>by subst h; rfl
          by_cases e:max (f-t.2.1) (zak p way i)-zak p way i>=min f (zak p way (i+1))-zak p way i
          · rw [decide_eq_true e];by_cases e1:f-t.2.1<zak p way (i+1)
            · rw [decide_eq_false (show ¬ zak p way i<f by omega),decide_eq_false (show ¬ i=0 by omega)]; simp
            · rw [decide_eq_false e1]; rfl
          · rw [decide_eq_false e,decide_eq_true (show f-t.2.1<zak p way (i+1) by omega),decide_eq_true (show zak p way i<f by omega)]; rfl
        by_cases e:max (f-t.2.1) (zak p way i)-zak p way i>=min f (zak p way (i+1))-zak p way i
        · rw [decide_eq_true e] at hov ⊢;rw [cond_true,zy J];exact Tot.some ⟨⟨i+1,C,rfl,by omega,zvR hC hov⟩,by simp only [Int.toNat_natCast]; omega⟩
        · rw [decide_eq_false e] at hov ⊢;have hcl:=hC.1;rw [cond_false,Zs];have happ:∀ a b:Int,zde 24 C [((way.getD i M0).1,a,b,())]=Ob (C++[((way.getD i M0).1,a,b,())]):=λa b=>zaK Oj;simp only [Zs,happ,zy (show i<9223372036854775807 by omega)];cases (way.getD i M0).2.1 with
          | true=>exact Tot.some ⟨⟨i+1,_,rfl,by omega,ztj hw hC hil hov _ _⟩,by simp only [Int.toNat_natCast]; omega⟩
          | false=>exact Tot.some ⟨⟨i+1,_,rfl,by omega,ztj hw hC hil hov _ _⟩,by simp only [Int.toNat_natCast]; omega⟩
      · have:i=way.length:=J
        subst this;rw [zS,cond_false];exact Tot.some hC)
  obtain ⟨C,h1,h2⟩:=hT;exact ⟨C,by rw [h1]; rfl,h2⟩
theorem zf0 {f:Int} (hf:1<=f/\f<=4000000000000000000):zdK p way t f=Ob (zm8 p way t f):=by
  have hn:=hw.n;obtain ⟨C,h1,h2,h3,h4⟩:=ztk hp hw ht hf;unfold zdK;rw [h1,Zs];have hL:=zc2 (f:=λs8:Int×Int=>
cond (decide (s8.2<zp C)) (Zb (idx C s8.2) λx13=>
Zb (idx p.2.1 x13.1) λx14=>
Ob (.inl (min s8.1 x14.2.2.2.1,w64 (s8.2+1)))) (Ob (.inr s8.1))) C (λi b=>(b,(i:Int))) (λ_ b c=>(.inl (min b (rl0 p c.1).2.2.2.1):Int⊕Int)) (λb=>b) (λ_ _=>True) t.2.2.1 (s0:=(t.2.2.1,0)) rfl J trivial (λi h b _=>by
      refine ⟨?_,λ_ _=>trivial⟩;simp only [];rw [zQ h,cond_true,zeZ,List.getElem?_eq_getElem h,Zs];have hc:=h3 C[i] (List.getElem_mem h);have hr:idx p.2.1 C[i].1=Ob (rl0 p C[i].1):=zd7 hc.1 hc.2;rw [hr,Zs,zy J]) (λb _=>by simp only [zS,cond_false])
  rw [hL,zfL,h4];rfl
end
section
variable (p:Plan) (way:List zL) (t:Train) (st stop:Int)
def slS (y:zd):Int:=zft p way (zF t y)
def zgA (x:zd):Bool:=decide (zF t x<=stop)&&decide (x.1/t.1<=zm8 p way t (zF t x))
def nxS (x:zd):zbm×Bool:=zeE t st x (-4) (slS p way t x)
def zro:Nat->zd->Bool
 | 0,x=>x.1==0
 | n+1,x=>x.1==0||((nxS p way t st x).2&&(zgA p way t stop (nxS p way t st x).1.1&&zro n (nxS p way t st x).1.1))
def zmS (x:zd):Bool:=zgA p way t stop x&&zro p way t st stop 36000 x
end
section
variable {p:Plan} {way:List zL} {t:Train} {st:Int} {stops:List Int} {x:zd} (hp:ziH p) (hw:zhH p way) (ht:zk4 t) (hst:0<=st/\st<t.2.2.2.2.2.2.2.2.2.1.length)
include hp hw ht hst
theorem ztl (hx:zqc t x) (stop:Int):zbT (zj1 p way t st stops) x stop=Ob (zgA p way t stop x):=by
 have hf:zpi t st 0 0:=⟨hst,by omega,by omega⟩;unfold zbT;show (Zb (Zb (z6 (t,st,()) x) λy10=>cond (decide (y10<=stop)) (Zb (zbz (t,st,()) x) _) _) _)=_;rw [(zhn ht hx st).1,Zs,(zjg ht hf hx).1,Zs,zvQ hp hw ht hx,Zs];unfold zgA zF;cases decide (x.2.1/(10*t.1)<=stop)<;>rfl
theorem zyA (hx:0<=x.1/\x.1<=25000*t.1) (hwx:0<=x.2.1/\x.2.1<=1000000000000000000) (stop:Int):zcp (zj1 p way t st stops) x stop=Ob (zmS p way t st stop x):=by
  unfold zcp;rw [ztl hp hw ht hst ⟨hx,hwx.1,by omega⟩ stop,Zs];unfold zmS;cases hfi:zgA p way t stop x with
  | false=>rfl
  | true=>
    have hm:zcf (zj1 p way t st stops).1 x (λy=>zaT (zj1 p way t st stops) y)=Ob (x,(t,st,()),λy=>zaT (zj1 p way t st stops) y):=rfl;simp only [Bool.not_true,cond_false,hm,Zs,Bool.true_and];have hS:=zpj (σ:=Int×Int) (τ:=Int×Int) (t:=t) (st:=st) (sl:=slS p way t) (f:=λy=>zaT (zj1 p way t st stops) y)
      (step:=λs16 x9=>Zb (zbT (zj1 p way t st stops) x9 stop) λy19=>
cond (!y19) (Ob (.inr (s16.1,s16.2))) (Ob (.inl (x9.1,x9.2.1))))
      (g:=λs y=>if zgA p way t stop y then .inl (y.1,y.2.1) else .inr (s.1,s.2)) (W:=4000000000000000000) ht hst J
      (λy h1 h2=>⟨zvO hp hw ht ⟨h1,h2⟩,zhD hp hw ht ⟨h1,h2⟩ _⟩)
      (λs y h1 h2=>by
        rw [ztl hp hw ht hst ⟨h1,h2⟩ stop,Zs];cases zgA p way t stop y<;>rfl) (x.1,x.2.1) x hx ⟨hwx.1,by omega⟩
    obtain ⟨z,hz⟩:=hS;rw [hz,Zs];have key:∀ (n:Nat) (x:zd),(alt (λb23:Int×Int=>Ob (b23.1==0)) (λ_:Int×Int=>Ob Oc) (zmD (λ(s:Int×Int) (y:zd)=>if zgA p way t stop y then .inl (y.1,y.2.1) else .inr (s.1,s.2)) (x.1,x.2.1) (brk t st (slS p way t) n x)):Option Bool)=Ob (zro p way t st stop n x):=by
      intro n;induction n with
      | zero=>intro x; rfl
      | succ n ih=>
        intro x;unfold brk zro;by_cases h0:x.1=0
        · rw [if_pos h0,show (x.1==0)=Od by simpa using h0];simp only [zmD,zbw,h0]; rfl
        · rw [if_neg h0,show (x.1==0)=Oc by simpa using h0];show alt _ _ (zmD _ _ (if (nxS p way t st x).2=Od then (nxS p way t st x).1.1::brk t st (slS p way t) n (nxS p way t st x).1.1 else []))=_;cases hok:(nxS p way t st x).2 with
          | false=>
            simp only [Bool.false_eq_true,if_false,zmD,zbw,Bool.false_and,Bool.or_false];rw [show (x.1==0)=Oc by simpa using h0]
          | true=>
            simp only [if_true,zmD,Bool.true_and,Bool.false_or];cases hfy:zgA p way t stop (nxS p way t st x).1.1 with
            | false=>rfl
            | true=>
              simp only [if_true,Bool.true_and];exact ih _
    exact key 36000 x
theorem zvS (hx:0<=x.1/\x.1<=25000*t.1) (hwx:10*t.1<=x.2.1/\x.2.1<=1000000000000000000) (stop:Int):zef (p,way,t,st,stop,()) x=Ob (zmS p way t st stop x):=by
  have hm:=ht.m;unfold zef;have key:∀ (n k:Nat) (v w:Int),k+n=36000->0<=v/\v<=25000*t.1->10*t.1<=w/\w+2000000000*n<=2000000000000000000->∃ T:Bool×Int×Int,T.1=(zgA p way t stop (v,w,())&&zro p way t st stop n (v,w,()))/\Lp (λs54:Int×Int×Int=>
Zb (zU t (s54.2.1,s54.2.2,())) λy66=>
cond (decide (y66>stop)) (Ob (.inr (Oc,s54.2.1,s54.2.2))) (Zb (zdi .i64 s54.2.1 t.1) λx69=>
Zb (zU t (s54.2.1,s54.2.2,())) λy70=>
Zb (zdK p way t y70) λy71=>
cond (decide (x69>y71)) (Ob (.inr (Oc,s54.2.1,s54.2.2))) (cond (s54.2.1==0) (Ob (.inr (Od,s54.2.1,s54.2.2))) (cond (s54.1==36000) (Ob (.inr (Oc,s54.2.1,s54.2.2))) (Zb (zU t (s54.2.1,s54.2.2,())) λy78=>
Zb (zbe (p,way,t,st,stop,()) y78) λy79=>
Zb (zaQ t (s54.2.1,s54.2.2,()) (-4) y79 st) λy80=>
cond (!y80.2.2) (Ob (.inr (Oc,y80.1.1,y80.1.2.1))) (Ob (.inl (w64 (s54.1+1),y80.1.1,y80.1.2.1)))))))) n ((k:Int),v,w) T:=by
    intro n;induction n with
    | zero=>
      intro k v w hk hv hww;have:k=36000:=J
      subst this;have hso:zqc t (v,w,()):=⟨hv,⟨by show 0<=w; omega,by show w<=_; omega⟩⟩;have hf0:zpi t st 0 0:=⟨hst,by omega,by omega⟩;have hpl:1<=zF t (v,w,())/\zF t (v,w,())<=4000000000000000000:=by
        refine ⟨?_,(zol hp hw ht hso).2⟩;show 1<=w/(10*t.1);exact (Int.le_ediv_iff_mul_le J).2 J
      have e0:zU t (v,w,())=Ob (zF t (v,w,())):=(zhn ht hso st).2;have e1:zdi .i64 v t.1=Ob (v/t.1):=(zjg ht hf0 hso).2;by_cases c1:zF t (v,w,())<=stop
      · by_cases c2:v/t.1<=zm8 p way t (zF t (v,w,()))
        · have hfb:zgA p way t stop (v,w,())=Od:=by
            unfold zgA;rw [decide_eq_true c1,decide_eq_true (show (v,w,()).1/t.1<=zm8 p way t (zF t (v,w,())) from c2)]; rfl
          rw [hfb];by_cases h0:v=0
          · subst h0;refine ⟨(Od,0,w),rfl,Lp.done ?_⟩;simp only [e0,Zs,e1,zf0 hp hw ht hpl,decide_eq_false (show ¬ zF t (0,w,())>stop by omega),decide_eq_false (show ¬ (0:Int)/t.1>zm8 p way t (zF t (0,w,())) by omega),cond_false];rfl
          · have hb:(v==0)=Oc:=by simpa using h0
            refine ⟨(Oc,v,w), ?_,Lp.done ?_⟩
            · show Oc=(Od&&(v==0)); rw [hb]; rfl
            simp only [e0,Zs,e1,zf0 hp hw ht hpl,decide_eq_false (show ¬ zF t (v,w,())>stop by omega),decide_eq_false (show ¬ v/t.1>zm8 p way t (zF t (v,w,())) by omega),cond_false,hb];rfl
        · refine ⟨(Oc,v,w), ?_,Lp.done ?_⟩
          · unfold zgA;rw [decide_eq_false (show ¬ (v,w,()).1/t.1<=zm8 p way t (zF t (v,w,())) from c2),Bool.and_false]; rfl
          simp only [e0,Zs,e1,zf0 hp hw ht hpl,decide_eq_false (show ¬ zF t (v,w,())>stop by omega),decide_eq_true (show v/t.1>zm8 p way t (zF t (v,w,())) by omega),cond_false,cond_true]
      · refine ⟨(Oc,v,w), ?_,Lp.done ?_⟩
        · unfold zgA;rw [decide_eq_false c1]; rfl
        simp only [e0,Zs,decide_eq_true (show zF t (v,w,())>stop by omega),cond_true]
    | succ n ih=>
      intro k v w hk hv hww;have hk0:((k:Int)==36000)=Oc:=by simp; omega
      have hso:zqc t (v,w,()):=⟨hv,⟨by show 0<=w; omega,by show w<=_; omega⟩⟩;have hf0:zpi t st 0 0:=⟨hst,by omega,by omega⟩;have hpl:1<=zF t (v,w,())/\zF t (v,w,())<=4000000000000000000:=by
        refine ⟨?_,(zol hp hw ht hso).2⟩;show 1<=w/(10*t.1);exact (Int.le_ediv_iff_mul_le J).2 J
      have e0:zU t (v,w,())=Ob (zF t (v,w,())):=(zhn ht hso st).2;have e1:zdi .i64 v t.1=Ob (v/t.1):=(zjg ht hf0 hso).2;by_cases c1:zF t (v,w,())<=stop
      · by_cases c2:v/t.1<=zm8 p way t (zF t (v,w,()))
        · have hfb:zgA p way t stop (v,w,())=Od:=by
            unfold zgA;rw [decide_eq_true c1,decide_eq_true (show (v,w,()).1/t.1<=zm8 p way t (zF t (v,w,())) from c2)]; rfl
          rw [hfb];unfold zro;by_cases h0:v=0
          · subst h0;refine ⟨(Od,0,w),rfl,Lp.done ?_⟩;simp only [e0,Zs,e1,zf0 hp hw ht hpl,decide_eq_false (show ¬ zF t (0,w,())>stop by omega),decide_eq_false (show ¬ (0:Int)/t.1>zm8 p way t (zF t (0,w,())) by omega),cond_false];rfl
          · have hb:(v==0)=Oc:=by simpa using h0
            have hsl:=zhD hp hw ht hso (zF t (v,w,()));have hfin:zpi t st (-4) (zft p way (zF t (v,w,()))):=⟨hst,by omega,hsl⟩;have hstep:zaQ t (v,w,()) (-4) (zft p way (zF t (v,w,()))) st=Ob ((nxS p way t st (v,w,())).1.1,(nxS p way t st (v,w,())).1.2.1,(nxS p way t st (v,w,())).2):=zmE ht hfin hso;have hbx:(((v,w,()):zd).1==0)=Oc:=hb;rw [hbx];cases hok:(nxS p way t st (v,w,())).2 with
            | false=>
              refine ⟨(Oc,(nxS p way t st (v,w,())).1.1.1,(nxS p way t st (v,w,())).1.1.2.1),rfl,Lp.done ?_⟩;simp only [e0,Zs,e1,zf0 hp hw ht hpl,decide_eq_false (show ¬ zF t (v,w,())>stop by omega),decide_eq_false (show ¬ v/t.1>zm8 p way t (zF t (v,w,())) by omega),cond_false,hb,hk0,zgz hp hw ht (show 0<=zF t (v,w,())/\zF t (v,w,())<=4000000000000000000 by omega),hstep,hok,Bool.not_false,cond_true]
            | true=>
              obtain ⟨n1,n2⟩:=zho ht hfin hv ⟨by show 0<=w; omega,by show w<=_; omega⟩ hok;have n1':0<=(nxS p way t st (v,w,())).1.1.1/\(nxS p way t st (v,w,())).1.1.1<=25000*t.1:=n1;have n2':(nxS p way t st (v,w,())).1.1.2.1=w+(nxS p way t st (v,w,())).1.1.1:=n2;obtain ⟨T,h1,h2⟩:=ih (k+1) (nxS p way t st (v,w,())).1.1.1 (nxS p way t st (v,w,())).1.1.2.1 J n1' J;refine ⟨T, ?_,Lp.step ?_ h2⟩
              · rw [h1]; rfl
              simp only [e0,Zs,e1,zf0 hp hw ht hpl,decide_eq_false (show ¬ zF t (v,w,())>stop by omega),decide_eq_false (show ¬ v/t.1>zm8 p way t (zF t (v,w,())) by omega),cond_false,hb,hk0,zgz hp hw ht (show 0<=zF t (v,w,())/\zF t (v,w,())<=4000000000000000000 by omega),hstep,hok,Bool.not_true];rw [zy J]
        · refine ⟨(Oc,v,w), ?_,Lp.done ?_⟩
          · unfold zgA;rw [decide_eq_false (show ¬ (v,w,()).1/t.1<=zm8 p way t (zF t (v,w,())) from c2),Bool.and_false]; rfl
          simp only [e0,Zs,e1,zf0 hp hw ht hpl,decide_eq_false (show ¬ zF t (v,w,())>stop by omega),decide_eq_true (show v/t.1>zm8 p way t (zF t (v,w,())) by omega),cond_false,cond_true]
      · refine ⟨(Oc,v,w), ?_,Lp.done ?_⟩
        · unfold zgA;rw [decide_eq_false c1]; rfl
        simp only [e0,Zs,decide_eq_true (show zF t (v,w,())>stop by omega),cond_true]
  obtain ⟨T,h1,h2⟩:=key 36000 0 x.1 x.2.1 J hx J;rw [show ((0:Nat):Int)=0 from rfl] at h2;have hB:=h2.big Of;have:=congrArg (λo=>Zb o λt82:Bool×Int×Int=>Ob t82.1) hB;exact this.trans (congrArg Ob h1)
end
def zuf (ok:Int->Bool):Nat->Int->Option Int
 | 0,_=>Oe
 | n+1,d=>if ok d then Ob d else zuf ok n (d-1)
theorem zkU {ok:Int->Bool}:∀ {n:Nat} {d e:Int},zuf ok n d=Ob e->ok e=Od/\d-n<e/\e<=d
 | 0,_,_,h=>by cases h
 | n+1,d,e,h=>by
  rw [zuf] at h;split at h
  . rename_i hk;cases h;exact ⟨hk,by omega,by omega⟩
  . obtain ⟨h1,h2,h3⟩:=zkU h;exact ⟨h1,by omega,by omega⟩
section
variable (p:Plan) (way:List zL) (t:Train) (st stop:Int)
def zdo (x:zd) (d:Int):zbm×Bool:=zeE t st x d (slS p way t x)
def okD (x:zd) (d:Int):Bool:=(zdo p way t st x d).2&&zmS p way t st stop (zdo p way t st x d).1.1
def zrp (x:zd):Option Int:=zuf (okD p way t st stop x) 9 4
end
def zBA (s:zbm):Bool×Int×Int×Int×Int×Int×Int×Int×Int×Int×Int:=(Od,s.1.1,s.1.2.1,s.2.1.1,s.2.1.2.1,s.2.1.2.2.1,s.2.1.2.2.2.1,s.2.1.2.2.2.2.1,s.2.1.2.2.2.2.2.1,s.2.2.1,s.2.2.2.1)
section
variable {p:Plan} {way:List zL} {t:Train} {st:Int} {stops:List Int} {x:zd} (hp:ziH p) (hw:zhH p way) (ht:zk4 t) (hst:0<=st/\st<t.2.2.2.2.2.2.2.2.2.1.length)
include hp hw ht hst
theorem zon (hx:0<=x.1/\x.1<=25000*t.1) (hwx:0<=x.2.1/\x.2.1<=500000000000000000) (stop:Int):zaY (zj1 p way t st stops) x stop=Ob (match zrp p way t st stop x with | some d=>((zdo p way t st x d).1,Od) | none=>(((0,0,()),(0,0,0,0,0,0,()),0,0,()),Oc)):=by
  have hm:=ht.m;have hso:zqc t x:=⟨hx,⟨hwx.1,by omega⟩⟩;have hsl:=zhD hp hw ht hso (zF t x);unfold zaY;rw [zvO hp hw ht hso,Zs];have key:∀ (n k:Nat),k+n=9->Lp (λs26:Bool×Int×Int×Int×Int×Int×Int×Int×Int×Int×Int×Int=>
cond (decide (s26.2.1<9)) (Zb (zaI (zj1 p way t st stops).1 x (w64 (4-s26.2.1)) (zft p way (zF t x))) λy31=>
cond y31.2 (Zb (zcp (zj1 p way t st stops) y31.1.1 stop) λy36=>
cond y36 (Ob (.inr ((Od,y31.1.1.1,y31.1.1.2.1,y31.1.2.1.1,y31.1.2.1.2.1,y31.1.2.1.2.2.1,y31.1.2.1.2.2.2.1,y31.1.2.1.2.2.2.2.1,y31.1.2.1.2.2.2.2.2.1,y31.1.2.2.1,y31.1.2.2.2.1):Bool×Int×Int×Int×Int×Int×Int×Int×Int×Int×Int))) (Ob (.inl (s26.1,w64 (s26.2.1+1),s26.2.2.1,s26.2.2.2.1,s26.2.2.2.2.1,s26.2.2.2.2.2.1,s26.2.2.2.2.2.2.1,s26.2.2.2.2.2.2.2.1,s26.2.2.2.2.2.2.2.2.1,s26.2.2.2.2.2.2.2.2.2.1,s26.2.2.2.2.2.2.2.2.2.2.1,s26.2.2.2.2.2.2.2.2.2.2.2)))) (Ob (.inl (s26.1,w64 (s26.2.1+1),s26.2.2.1,s26.2.2.2.1,s26.2.2.2.2.1,s26.2.2.2.2.2.1,s26.2.2.2.2.2.2.1,s26.2.2.2.2.2.2.2.1,s26.2.2.2.2.2.2.2.2.1,s26.2.2.2.2.2.2.2.2.2.1,s26.2.2.2.2.2.2.2.2.2.2.1,s26.2.2.2.2.2.2.2.2.2.2.2)))) (Ob (.inr (s26.1,s26.2.2.1,s26.2.2.2.1,s26.2.2.2.2.1,s26.2.2.2.2.2.1,s26.2.2.2.2.2.2.1,s26.2.2.2.2.2.2.2.1,s26.2.2.2.2.2.2.2.2.1,s26.2.2.2.2.2.2.2.2.2.1,s26.2.2.2.2.2.2.2.2.2.2.1,s26.2.2.2.2.2.2.2.2.2.2.2)))) n (Oc,(k:Int),0,0,0,0,0,0,0,0,0,0) (match zuf (okD p way t st stop x) n (4-k) with | some d=>zBA (zdo p way t st x d).1 | none=>(Oc,0,0,0,0,0,0,0,0,0,0)):=by
    intro n;induction n with
    | zero=>
      intro k hk;have:k=9:=J
      subst this;exact Lp.done rfl
    | succ n ih=>
      intro k hk;have hfin:zpi t st (4-k) (zft p way (zF t x)):=⟨hst,by omega,hsl⟩;have hstep:zaI (zj1 p way t st stops).1 x (4-(k:Int)) (zft p way (zF t x))=Ob (zdo p way t st x (4-k)):=zqd ht hfin hso;have hnext:Lp _ _ _ _:=ih (k+1) J;rw [show (4-((k+1:Nat):Int))=4-(k:Int)-1 by omega] at hnext;have hok:okD p way t st stop x (4-k)=((zdo p way t st x (4-k)).2&&zmS p way t st stop (zdo p way t st x (4-k)).1.1):=rfl;rw [zuf,hok];cases h1:(zdo p way t st x (4-k)).2 with
      | false=>
        simp only [Bool.false_and,Bool.false_eq_true,if_false];refine Lp.step ?_ hnext;simp only [decide_eq_true (show (k:Int)<9 by omega),cond_true,zf (n:=4-(k:Int)) J J,hstep,Zs,h1,cond_false];rw [zy J]
      | true=>
        obtain ⟨n1,n2⟩:=zho ht hfin hx hso.w h1;have n1':0<=(zdo p way t st x (4-k)).1.1.1/\(zdo p way t st x (4-k)).1.1.1<=25000*t.1:=n1;have n2':(zdo p way t st x (4-k)).1.1.2.1=x.2.1+(zdo p way t st x (4-k)).1.1.1:=n2;have hsafe:=zyA (stops:=stops) hp hw ht hst n1' J stop;cases h2:zmS p way t st stop (zdo p way t st x (4-k)).1.1 with
        | false=>
          simp only [Bool.and_false,Bool.false_eq_true,if_false];refine Lp.step ?_ hnext;simp only [decide_eq_true (show (k:Int)<9 by omega),cond_true,zf (n:=4-(k:Int)) J J,hstep,Zs,h1,hsafe,h2,cond_false];rw [zy J]
        | true=>
          simp only [Bool.and_true,if_true];refine Lp.done ?_;simp only [decide_eq_true (show (k:Int)<9 by omega),cond_true,zf (n:=4-(k:Int)) J J,hstep,Zs,h1,hsafe,h2];rfl
  have hB:=(key 9 0 rfl).big Of;rw [show ((0:Nat):Int)=0 from rfl] at hB;refine (congrArg (λo=>Zb o λt39:Bool×Int×Int×Int×Int×Int×Int×Int×Int×Int×Int=>Ob ((((t39.2.1,t39.2.2.1,()),(t39.2.2.2.1,t39.2.2.2.2.1,t39.2.2.2.2.2.1,t39.2.2.2.2.2.2.1,t39.2.2.2.2.2.2.2.1,t39.2.2.2.2.2.2.2.2.1,()),t39.2.2.2.2.2.2.2.2.2.1,t39.2.2.2.2.2.2.2.2.2.2,()),t39.1):zbm×Bool)) hB).trans ?_;rw [Zs];unfold zrp;rw [show (4:Int)-0=4 from rfl];cases zuf (okD p way t st stop x) 9 4<;>rfl
theorem zoo (hx:0<=x.1/\x.1<=25000*t.1) (hwx:10*t.1<=x.2.1/\x.2.1<=500000000000000000) (stop:Int):zcF (p,way,t,st,stop,()) x=Ob (match zrp p way t st stop x with | some d=>(d,Od) | none=>(0,Oc)):=by
  have hm:=ht.m;have hso:zqc t x:=⟨hx,⟨by omega,by omega⟩⟩;have hsl:=zhD hp hw ht hso (zF t x);have hpl:=zol hp hw ht hso;unfold zcF;have key:∀ (n:Nat) (d:Int),d+5=n->d<=4->Lp (λs18:Int=>
cond (decide (s18>=(-4))) (Zb (zU t x) λy26=>
Zb (zbe (p,way,t,st,stop,()) y26) λy27=>
Zb (zaQ t x s18 y27 st) λy28=>
cond y28.2.2 (Zb (zef (p,way,t,st,stop,()) y28.1) λy34=>
cond y34 (Ob (.inr (.inr (s18,Od)))) (Ob (.inl (w64 (s18-1))))) (Ob (.inl (w64 (s18-1))))) (Ob (.inr (.inl ())))) n d (match zuf (okD p way t st stop x) n d with | some e=>(.inr (e,Od):Unit⊕(Int×Bool)) | none=>.inl ()):=by
    intro n;induction n with
    | zero=>
      intro d hd _;refine Lp.done ?_;rw [decide_eq_false J]; rfl
    | succ n ih=>
      intro d hd hd4;have hfin:zpi t st d (zft p way (zF t x)):=⟨hst,by omega,hsl⟩;have hstep:zaQ t x d (zft p way (zF t x)) st=Ob ((zdo p way t st x d).1.1,(zdo p way t st x d).1.2.1,(zdo p way t st x d).2):=zmE ht hfin hso;have e0:zU t x=Ob (zF t x):=(zhn ht hso st).2;have hnext:=ih (d-1) J J;have hok:okD p way t st stop x d=((zdo p way t st x d).2&&zmS p way t st stop (zdo p way t st x d).1.1):=rfl;rw [zuf,hok];cases h1:(zdo p way t st x d).2 with
      | false=>
        simp only [Bool.false_and,Bool.false_eq_true,if_false];refine Lp.step ?_ hnext;simp only [decide_eq_true (show d>=-4 by omega),cond_true,e0,Zs,zgz hp hw ht hpl,hstep,h1,cond_false,zf (n:=d-1) J J]
      | true=>
        obtain ⟨n1,n2⟩:=zho ht hfin hx hso.w h1;have n1':0<=(zdo p way t st x d).1.1.1/\(zdo p way t st x d).1.1.1<=25000*t.1:=n1;have n2':(zdo p way t st x d).1.1.2.1=x.2.1+(zdo p way t st x d).1.1.1:=n2;have hsafe:=zvS hp hw ht hst n1' J stop;cases h2:zmS p way t st stop (zdo p way t st x d).1.1 with
        | false=>
          simp only [Bool.and_false,Bool.false_eq_true,if_false];refine Lp.step ?_ hnext;simp only [decide_eq_true (show d>=-4 by omega),cond_true,e0,Zs,zgz hp hw ht hpl,hstep,h1,hsafe,h2,cond_false,zf (n:=d-1) J J]
        | true=>
          simp only [Bool.and_true,if_true];refine Lp.done ?_;simp only [decide_eq_true (show d>=-4 by omega),cond_true,e0,Zs,zgz hp hw ht hpl,hstep,h1,hsafe,h2]
  have hB:=(key 9 4 rfl J).big Of;rw [hB,Zs];unfold zrp;cases zuf (okD p way t st stop x) 9 4<;>rfl
end
def zyB (p_0:zaF) (p_2:Int):(Int×Int×Int×Int×Int×Int×Int×Int×Int×Int×Int×Int×Int×Int×Int×Int×Int×Int×Int×Int×Int×Int×Int×Int×Int)->Option ((Int×Int×Int×Int×Int×Int×Int×Int×Int×Int×Int×Int×Int×Int×Int×Int×Int×Int×Int×Int×Int×Int×Int×Int×Int)⊕(Bool×Int×Int×Int×Int×Int×Int×Int×Int×Int×Int×Int×Int×Int×Int×Int×Int×Int×Int×Int×Int×Int×Int×Int×Int)):=(λs77=>
Zb (z6 p_0.1 (s77.2.2.2.2.2.2.2.2.2.2.2.2.2.2.1,s77.2.2.2.2.2.2.2.2.2.2.2.2.2.2.2.1,())) λy80=>
cond (s77.2.2.2.2.2.2.2.2.2.2.2.2.2.2.1==0) (Zb (zW (w64 (p_2-y80)) 0 1000) λy84=>
cond y84 (Ob (.inr (Od,y80,s77.2.2.2.2.2.2.2.2.2.2.2.2.2.2.1,s77.2.2.2.2.2.2.2.2.2.2.2.2.2.2.2.1,s77.2.1,y80,s77.2.2.2.1,s77.2.2.2.2.1,s77.2.2.2.2.2.1,s77.2.2.2.2.2.2.1,s77.2.2.2.2.2.2.2.1,s77.2.2.2.2.2.2.2.2.1,s77.2.2.2.2.2.2.2.2.2.1,s77.2.2.2.2.2.2.2.2.2.2.1,s77.2.1,s77.2.2.2.1,s77.2.2.2.2.1,s77.2.2.2.2.2.1,s77.2.2.2.2.2.2.1,s77.2.2.2.2.2.2.2.1,s77.2.2.2.2.2.2.2.2.1,s77.2.2.2.2.2.2.2.2.2.1,s77.2.2.2.2.2.2.2.2.2.2.1,s77.2.2.2.2.2.2.2.2.2.2.2.2.2.2.1,s77.2.2.2.2.2.2.2.2.2.2.2.2.2.2.2.1))) (cond (s77.1==36000) (Ob (.inr (Oc,s77.2.2.1,s77.2.2.2.2.2.2.2.2.2.2.2.2.2.2.1,s77.2.2.2.2.2.2.2.2.2.2.2.2.2.2.2.1,s77.2.1,s77.2.2.1,s77.2.2.2.1,s77.2.2.2.2.1,s77.2.2.2.2.2.1,s77.2.2.2.2.2.2.1,s77.2.2.2.2.2.2.2.1,s77.2.2.2.2.2.2.2.2.1,s77.2.2.2.2.2.2.2.2.2.1,s77.2.2.2.2.2.2.2.2.2.2.1,s77.2.1,s77.2.2.2.1,s77.2.2.2.2.1,s77.2.2.2.2.2.1,s77.2.2.2.2.2.2.1,s77.2.2.2.2.2.2.2.1,s77.2.2.2.2.2.2.2.2.1,s77.2.2.2.2.2.2.2.2.2.1,s77.2.2.2.2.2.2.2.2.2.2.1,s77.2.2.2.2.2.2.2.2.2.2.2.2.2.2.1,s77.2.2.2.2.2.2.2.2.2.2.2.2.2.2.2.1))) (Zb (zaY p_0 (s77.2.2.2.2.2.2.2.2.2.2.2.2.2.2.1,s77.2.2.2.2.2.2.2.2.2.2.2.2.2.2.2.1,()) p_2) λy87=>
cond (!y87.2) (Ob (.inr (Oc,s77.2.2.1,s77.2.2.2.2.2.2.2.2.2.2.2.2.2.2.1,s77.2.2.2.2.2.2.2.2.2.2.2.2.2.2.2.1,s77.2.1,s77.2.2.1,s77.2.2.2.1,s77.2.2.2.2.1,s77.2.2.2.2.2.1,s77.2.2.2.2.2.2.1,s77.2.2.2.2.2.2.2.1,s77.2.2.2.2.2.2.2.2.1,s77.2.2.2.2.2.2.2.2.2.1,s77.2.2.2.2.2.2.2.2.2.2.1,s77.2.1,s77.2.2.2.1,s77.2.2.2.2.1,s77.2.2.2.2.2.1,s77.2.2.2.2.2.2.1,s77.2.2.2.2.2.2.2.1,s77.2.2.2.2.2.2.2.2.1,s77.2.2.2.2.2.2.2.2.2.1,s77.2.2.2.2.2.2.2.2.2.2.1,s77.2.2.2.2.2.2.2.2.2.2.2.2.2.2.1,s77.2.2.2.2.2.2.2.2.2.2.2.2.2.2.2.1))) (cond (decide (y87.1.1.2.1>10000000000000000)) (Ob (.inr (Oc,s77.2.2.1,s77.2.2.2.2.2.2.2.2.2.2.2.2.2.2.1,s77.2.2.2.2.2.2.2.2.2.2.2.2.2.2.2.1,s77.2.1,s77.2.2.1,s77.2.2.2.1,s77.2.2.2.2.1,s77.2.2.2.2.2.1,s77.2.2.2.2.2.2.1,s77.2.2.2.2.2.2.2.1,s77.2.2.2.2.2.2.2.2.1,s77.2.2.2.2.2.2.2.2.2.1,s77.2.2.2.2.2.2.2.2.2.2.1,s77.2.1,s77.2.2.2.1,s77.2.2.2.2.1,s77.2.2.2.2.2.1,s77.2.2.2.2.2.2.1,s77.2.2.2.2.2.2.2.1,s77.2.2.2.2.2.2.2.2.1,s77.2.2.2.2.2.2.2.2.2.1,s77.2.2.2.2.2.2.2.2.2.2.1,s77.2.2.2.2.2.2.2.2.2.2.2.2.2.2.1,s77.2.2.2.2.2.2.2.2.2.2.2.2.2.2.2.1))) (Zb (zda ([(s77.2.2.2.1,s77.2.2.2.2.1,s77.2.2.2.2.2.1,s77.2.2.2.2.2.2.1,s77.2.2.2.2.2.2.2.1,s77.2.2.2.2.2.2.2.2.1,()),y87.1.2.1])) λy93=>
Ob (.inl (w64 (s77.1+1),w64 (s77.2.1+100),s77.2.2.1,y93.1,y93.2.1,y93.2.2.1,y93.2.2.2.1,y93.2.2.2.2.1,y93.2.2.2.2.2.1,max s77.2.2.2.2.2.2.2.2.2.1 y87.1.2.2.1,max s77.2.2.2.2.2.2.2.2.2.2.1 y87.1.2.2.2.1,s77.2.2.2.2.2.2.2.2.2.2.2.1,s77.2.2.2.2.2.2.2.2.2.2.2.2.1,s77.2.2.2.2.2.2.2.2.2.2.2.2.2.1,y87.1.1.1,y87.1.1.2.1,s77.2.2.2.2.2.2.2.2.2.2.2.2.2.2.2.2.1,s77.2.2.2.2.2.2.2.2.2.2.2.2.2.2.2.2.2.1,s77.2.2.2.2.2.2.2.2.2.2.2.2.2.2.2.2.2.2.1,s77.2.2.2.2.2.2.2.2.2.2.2.2.2.2.2.2.2.2.2.1,s77.2.2.2.2.2.2.2.2.2.2.2.2.2.2.2.2.2.2.2.2.1,s77.2.2.2.2.2.2.2.2.2.2.2.2.2.2.2.2.2.2.2.2.2.1,s77.2.2.2.2.2.2.2.2.2.2.2.2.2.2.2.2.2.2.2.2.2.2.1,s77.2.2.2.2.2.2.2.2.2.2.2.2.2.2.2.2.2.2.2.2.2.2.2.1,s77.2.2.2.2.2.2.2.2.2.2.2.2.2.2.2.2.2.2.2.2.2.2.2.2))))))) (cond (s77.1==36000) (Ob (.inr (Oc,s77.2.2.1,s77.2.2.2.2.2.2.2.2.2.2.2.2.2.2.1,s77.2.2.2.2.2.2.2.2.2.2.2.2.2.2.2.1,s77.2.1,s77.2.2.1,s77.2.2.2.1,s77.2.2.2.2.1,s77.2.2.2.2.2.1,s77.2.2.2.2.2.2.1,s77.2.2.2.2.2.2.2.1,s77.2.2.2.2.2.2.2.2.1,s77.2.2.2.2.2.2.2.2.2.1,s77.2.2.2.2.2.2.2.2.2.2.1,s77.2.1,s77.2.2.2.1,s77.2.2.2.2.1,s77.2.2.2.2.2.1,s77.2.2.2.2.2.2.1,s77.2.2.2.2.2.2.2.1,s77.2.2.2.2.2.2.2.2.1,s77.2.2.2.2.2.2.2.2.2.1,s77.2.2.2.2.2.2.2.2.2.2.1,s77.2.2.2.2.2.2.2.2.2.2.2.2.2.2.1,s77.2.2.2.2.2.2.2.2.2.2.2.2.2.2.2.1))) (Zb (zaY p_0 (s77.2.2.2.2.2.2.2.2.2.2.2.2.2.2.1,s77.2.2.2.2.2.2.2.2.2.2.2.2.2.2.2.1,()) p_2) λy96=>
cond (!y96.2) (Ob (.inr (Oc,s77.2.2.1,s77.2.2.2.2.2.2.2.2.2.2.2.2.2.2.1,s77.2.2.2.2.2.2.2.2.2.2.2.2.2.2.2.1,s77.2.1,s77.2.2.1,s77.2.2.2.1,s77.2.2.2.2.1,s77.2.2.2.2.2.1,s77.2.2.2.2.2.2.1,s77.2.2.2.2.2.2.2.1,s77.2.2.2.2.2.2.2.2.1,s77.2.2.2.2.2.2.2.2.2.1,s77.2.2.2.2.2.2.2.2.2.2.1,s77.2.1,s77.2.2.2.1,s77.2.2.2.2.1,s77.2.2.2.2.2.1,s77.2.2.2.2.2.2.1,s77.2.2.2.2.2.2.2.1,s77.2.2.2.2.2.2.2.2.1,s77.2.2.2.2.2.2.2.2.2.1,s77.2.2.2.2.2.2.2.2.2.2.1,s77.2.2.2.2.2.2.2.2.2.2.2.2.2.2.1,s77.2.2.2.2.2.2.2.2.2.2.2.2.2.2.2.1))) (cond (decide (y96.1.1.2.1>10000000000000000)) (Ob (.inr (Oc,s77.2.2.1,s77.2.2.2.2.2.2.2.2.2.2.2.2.2.2.1,s77.2.2.2.2.2.2.2.2.2.2.2.2.2.2.2.1,s77.2.1,s77.2.2.1,s77.2.2.2.1,s77.2.2.2.2.1,s77.2.2.2.2.2.1,s77.2.2.2.2.2.2.1,s77.2.2.2.2.2.2.2.1,s77.2.2.2.2.2.2.2.2.1,s77.2.2.2.2.2.2.2.2.2.1,s77.2.2.2.2.2.2.2.2.2.2.1,s77.2.1,s77.2.2.2.1,s77.2.2.2.2.1,s77.2.2.2.2.2.1,s77.2.2.2.2.2.2.1,s77.2.2.2.2.2.2.2.1,s77.2.2.2.2.2.2.2.2.1,s77.2.2.2.2.2.2.2.2.2.1,s77.2.2.2.2.2.2.2.2.2.2.1,s77.2.2.2.2.2.2.2.2.2.2.2.2.2.2.1,s77.2.2.2.2.2.2.2.2.2.2.2.2.2.2.2.1))) (Zb (zda ([(s77.2.2.2.1,s77.2.2.2.2.1,s77.2.2.2.2.2.1,s77.2.2.2.2.2.2.1,s77.2.2.2.2.2.2.2.1,s77.2.2.2.2.2.2.2.2.1,()),y96.1.2.1])) λy102=>
Ob (.inl (w64 (s77.1+1),w64 (s77.2.1+100),s77.2.2.1,y102.1,y102.2.1,y102.2.2.1,y102.2.2.2.1,y102.2.2.2.2.1,y102.2.2.2.2.2.1,max s77.2.2.2.2.2.2.2.2.2.1 y96.1.2.2.1,max s77.2.2.2.2.2.2.2.2.2.2.1 y96.1.2.2.2.1,s77.2.2.2.2.2.2.2.2.2.2.2.1,s77.2.2.2.2.2.2.2.2.2.2.2.2.1,s77.2.2.2.2.2.2.2.2.2.2.2.2.2.1,y96.1.1.1,y96.1.1.2.1,s77.2.2.2.2.2.2.2.2.2.2.2.2.2.2.2.2.1,s77.2.2.2.2.2.2.2.2.2.2.2.2.2.2.2.2.2.1,s77.2.2.2.2.2.2.2.2.2.2.2.2.2.2.2.2.2.2.1,s77.2.2.2.2.2.2.2.2.2.2.2.2.2.2.2.2.2.2.2.1,s77.2.2.2.2.2.2.2.2.2.2.2.2.2.2.2.2.2.2.2.2.1,s77.2.2.2.2.2.2.2.2.2.2.2.2.2.2.2.2.2.2.2.2.2.1,s77.2.2.2.2.2.2.2.2.2.2.2.2.2.2.2.2.2.2.2.2.2.2.1,s77.2.2.2.2.2.2.2.2.2.2.2.2.2.2.2.2.2.2.2.2.2.2.2.1,s77.2.2.2.2.2.2.2.2.2.2.2.2.2.2.2.2.2.2.2.2.2.2.2.2)))))))
def zzc:(Bool×Int×Int×Int×Int×Int×Int×Int×Int×Int×Int×Int×Int×Int×Int×Int×Int×Int×Int×Int×Int×Int×Int×Int×Int)->Option (Leg×zd×Bool):=λt103=>
Ob ((t103.2.2.2.2.1,t103.2.2.2.2.2.1,(t103.2.2.2.2.2.2.1,t103.2.2.2.2.2.2.2.1,t103.2.2.2.2.2.2.2.2.1,t103.2.2.2.2.2.2.2.2.2.1,t103.2.2.2.2.2.2.2.2.2.2.1,t103.2.2.2.2.2.2.2.2.2.2.2.1,()),t103.2.2.2.2.2.2.2.2.2.2.2.2.1,t103.2.2.2.2.2.2.2.2.2.2.2.2.2.1,()),(t103.2.2.1,t103.2.2.2.1,()),t103.1)
theorem zyC (a b:Int):w64 (w64 a+b)=w64 (a+b):=by
 simp only [w64,IntKind.wrap,IntKind.bits,IntKind.signed]; simp; omega
def zps (l m:zac):zac:=(w64 (l.1+m.1),w64 (l.2.1+m.2.1),w64 (l.2.2.1+m.2.2.1),w64 (l.2.2.2.1+m.2.2.2.1),w64 (l.2.2.2.2.1+m.2.2.2.2.1),w64 (l.2.2.2.2.2.1+m.2.2.2.2.2.1),())
theorem zwA (l m:zac):zda [l,m]=Ob (zps l m):=by
 unfold zda;have hL:Lp (λs9:Int×Int×Int×Int×Int×Int×Int=>
cond (decide (s9.1<zp [l,m])) (Zb (idx [l,m] s9.1) λx12=>
Ob (.inl (w64 (s9.1+1),w64 (s9.2.1+x12.1),w64 (s9.2.2.1+x12.2.1),w64 (s9.2.2.2.1+x12.2.2.1),w64 (s9.2.2.2.2.1+x12.2.2.2.1),w64 (s9.2.2.2.2.2.1+x12.2.2.2.2.1),w64 (s9.2.2.2.2.2.2+x12.2.2.2.2.2.1)))) (Ob (.inr (s9.2.1,s9.2.2.1,s9.2.2.2.1,s9.2.2.2.2.1,s9.2.2.2.2.2.1,s9.2.2.2.2.2.2)))) 2 (0,0,0,0,0,0,0) (w64 (w64 (0+l.1)+m.1),w64 (w64 (0+l.2.1)+m.2.1),w64 (w64 (0+l.2.2.1)+m.2.2.1),w64 (w64 (0+l.2.2.2.1)+m.2.2.2.1),w64 (w64 (0+l.2.2.2.2.1)+m.2.2.2.2.1),w64 (w64 (0+l.2.2.2.2.2.1)+m.2.2.2.2.2.1)):=Lp.step rfl (Lp.step rfl (Lp.done rfl))
 rw [hL.big Of,Zs];simp only [zyC,Int.zero_add];rfl
section
variable (p:Plan) (way:List zL) (t:Train) (st stop:Int)
def zm9 (x:zd):Bool:=x.1==0&&decide (stop-zF t x<=1000)
def zlg:Nat->Int->zac->Int->Int->zd->Option (Leg×zd)
 | 0,tm,l,a,b,x=>if zm9 t stop x then Ob ((tm,zF t x,l,a,b,()),x) else Oe
 | n+1,tm,l,a,b,x=>if zm9 t stop x then Ob ((tm,zF t x,l,a,b,()),x) else
  match zrp p way t st stop x with
  | none=>Oe
  | some d=>zlg n (tm+100) (zps l (zdo p way t st x d).1.2.1) (max a (zdo p way t st x d).1.2.2.1) (max b (zdo p way t st x d).1.2.2.2.1) (zdo p way t st x d).1.1
end
structure zna (t:Train) (stop:Int) (x:zd):Prop where
 p:0<=x.1/\x.1<=25000*t.1
 w:10*t.1<=x.2.1/\x.2.1<=1000000000000000
 s:zF t x<=stop
section
variable {p:Plan} {way:List zL} {t:Train} {st:Int} {stops:List Int} {x:zd} (hp:ziH p) (hw:zhH p way) (ht:zk4 t) (hst:0<=st/\st<t.2.2.2.2.2.2.2.2.2.1.length) {stop:Int} (hS:stop<=1000000000)
include hp hw ht hst hS
theorem zmT (hx:zna t stop x) {d:Int} (hd:zrp p way t st stop x=Ob d):zna t stop (zdo p way t st x d).1.1/\(zdo p way t st x d).1.1.2.1=x.2.1+(zdo p way t st x d).1.1.1/\zgA p way t stop (zdo p way t st x d).1.1=Od:=by
 obtain ⟨h1,h2,h3⟩:=zkU hd;unfold okD at h1;rw [Bool.and_eq_true] at h1;have hm:=ht.m;have hxw:=hx.w;have hso:zqc t x:=⟨hx.p,⟨by omega,by omega⟩⟩;have hfin:zpi t st d (slS p way t x):=⟨hst,by omega,zhD hp hw ht hso _⟩;obtain ⟨n1,n2⟩:=zho ht hfin hx.p hso.w h1.1;have hs:=h1.2;unfold zmS at hs;rw [Bool.and_eq_true] at hs;have hf:=hs.1;unfold zgA at hf;rw [Bool.and_eq_true,decide_eq_true_eq] at hf;refine ⟨⟨n1, ?_,hf.1⟩,n2,hs.1⟩;have n2':(zdo p way t st x d).1.1.2.1=x.2.1+(zdo p way t st x d).1.1.1:=n2;have n1':0<=(zdo p way t st x d).1.1.1/\(zdo p way t st x d).1.1.1<=25000*t.1:=n1;refine ⟨by omega, ?_⟩;have h5:=hf.1;unfold zF at h5;have h6:(zdo p way t st x d).1.1.2.1<(stop+1)*(10*t.1):=(Int.ediv_lt_iff_lt_mul J).1 J;by_cases h0:0<=stop+1
 . have h7:=zcJ (a:=stop+1) (b:=10*t.1) (A:=1000000001) (B:=800000) ⟨h0,by omega⟩ ⟨by omega,by omega⟩;omega
 . have h8:=Int.mul_nonneg (a:=-(stop+1)) (b:=10*t.1) J J;rw [Int.neg_mul] at h8;omega
section
variable {k:Nat} {tm l1 l2 l3 l4 l5 l6 a b v w:Int} (hx:zna t stop (v,w,()))
include hx
omit hp hw hst in
theorem zhE:zqc t (v,w,())/\z6 (zj1 p way t st stops).1 (v,w,())=Ob (zF t (v,w,()))/\zU t (v,w,())=Ob (zF t (v,w,()))/\0<=zF t (v,w,()):=by
 have hm:=ht.m;have hxw:10*t.1<=w/\w<=1000000000000000:=hx.w;have hso:zqc t (v,w,()):=⟨hx.p,⟨by show 0<=w; omega,by show w<=_; omega⟩⟩;have h0:0<=w/(10*t.1):=Int.ediv_nonneg J J;exact ⟨hso,(zhn ht hso st).1,(zhn ht hso st).2,h0⟩
theorem zqm (ha:zm9 t stop (v,w,())=Od):∃ T,zyB (zj1 p way t st stops) stop ((k:Int),tm,0,l1,l2,l3,l4,l5,l6,a,b,0,0,0,v,w,0,0,0,0,0,0,0,0,0)=Ob (.inr T)/\zzc T=Ob ((tm,zF t (v,w,()),(l1,l2,l3,l4,l5,l6,()),a,b,()),(v,w,()),Od):=by
 obtain ⟨_,e0,_,h0⟩:=zhE (stops:=stops) (st:=st) (p:=p) (way:=way) ht hS hx;have hs:=hx.s;unfold zm9 at ha;rw [Bool.and_eq_true,beq_iff_eq,decide_eq_true_eq] at ha;obtain ⟨ha1,ha2⟩:=ha;have ha1:v=0:=ha1;subst ha1;have hin:inB (stop-zF t (0,w,())) 0 1000=Od:=zar.2 J;unfold zyB;simp only [e0,Zs,show ((0:Int)==0)=Od from rfl,cond_true,mwithin,zf (n:=stop-zF t (0,w,())) J J,hin];exact ⟨_,rfl,rfl⟩
theorem zqn (ha:zm9 t stop (v,w,())=Oc) (hk:k=36000\/zrp p way t st stop (v,w,())=Oe):∃ T,zyB (zj1 p way t st stops) stop ((k:Int),tm,0,l1,l2,l3,l4,l5,l6,a,b,0,0,0,v,w,0,0,0,0,0,0,0,0,0)=Ob (.inr T)/\∃ L X,zzc T=Ob (L,X,Oc):=by
 obtain ⟨hso,e0,_,h0⟩:=zhE (stops:=stops) (st:=st) (p:=p) (way:=way) ht hS hx;have hs:=hx.s;have hm:=ht.m;have hxw:10*t.1<=w/\w<=1000000000000000:=hx.w;have hc:=zon (stops:=stops) hp hw ht hst hx.p (show 0<=((v,w,()):zd).2.1/\((v,w,()):zd).2.1<=500000000000000000 from ⟨by show 0<=w; omega,by show w<=_; omega⟩) stop;unfold zyB;by_cases hv:v=0
 . subst hv;have hin:inB (stop-zF t (0,w,())) 0 1000=Oc:=by
    cases h:inB (stop-zF t (0,w,())) 0 1000 with
    | false=>rfl
    | true=>
     have:=zar.1 h;unfold zm9 at ha;rw [decide_eq_true J] at ha;cases ha
   simp only [e0,Zs,show ((0:Int)==0)=Od from rfl,cond_true,mwithin,zf (n:=stop-zF t (0,w,())) J J,hin,cond_false];by_cases hk0:k=36000
   . subst hk0;exact ⟨_,rfl,_,_,rfl⟩
   . have hkb:((k:Int)==36000)=Oc:=by simp; omega
     have hd:=hk.resolve_left hk0;rw [hd] at hc;simp only [hkb,cond_false,hc,Zs,Bool.not_false,cond_true];exact ⟨_,rfl,_,_,rfl⟩
 . have hvb:(v==0)=Oc:=by simpa using hv
   simp only [e0,Zs,hvb,cond_false];by_cases hk0:k=36000
   . subst hk0;exact ⟨_,rfl,_,_,rfl⟩
   . have hkb:((k:Int)==36000)=Oc:=by simp; omega
     have hd:=hk.resolve_left hk0;rw [hd] at hc;simp only [hkb,cond_false,hc,Zs,Bool.not_false,cond_true];exact ⟨_,rfl,_,_,rfl⟩
theorem zyD (ha:zm9 t stop (v,w,())=Oc) (hk:k<36000) (htm:0<=tm/\tm<=3600000) {d:Int} (hd:zrp p way t st stop (v,w,())=Ob d):zyB (zj1 p way t st stops) stop ((k:Int),tm,0,l1,l2,l3,l4,l5,l6,a,b,0,0,0,v,w,0,0,0,0,0,0,0,0,0)=Ob (.inl (((k+1:Nat):Int),tm+100,0,(zps (l1,l2,l3,l4,l5,l6,()) (zdo p way t st (v,w,()) d).1.2.1).1,(zps (l1,l2,l3,l4,l5,l6,()) (zdo p way t st (v,w,()) d).1.2.1).2.1,(zps (l1,l2,l3,l4,l5,l6,()) (zdo p way t st (v,w,()) d).1.2.1).2.2.1,(zps (l1,l2,l3,l4,l5,l6,()) (zdo p way t st (v,w,()) d).1.2.1).2.2.2.1,(zps (l1,l2,l3,l4,l5,l6,()) (zdo p way t st (v,w,()) d).1.2.1).2.2.2.2.1,(zps (l1,l2,l3,l4,l5,l6,()) (zdo p way t st (v,w,()) d).1.2.1).2.2.2.2.2.1,max a (zdo p way t st (v,w,()) d).1.2.2.1,max b (zdo p way t st (v,w,()) d).1.2.2.2.1,0,0,0,(zdo p way t st (v,w,()) d).1.1.1,(zdo p way t st (v,w,()) d).1.1.2.1,0,0,0,0,0,0,0,0,0)):=by
 obtain ⟨hso,e0,_,h0⟩:=zhE (stops:=stops) (st:=st) (p:=p) (way:=way) ht hS hx;have hs:=hx.s;have hm:=ht.m;have hxw:10*t.1<=w/\w<=1000000000000000:=hx.w;have hc:=zon (stops:=stops) hp hw ht hst hx.p (show 0<=((v,w,()):zd).2.1/\((v,w,()):zd).2.1<=500000000000000000 from ⟨by show 0<=w; omega,by show w<=_; omega⟩) stop;have hnw:=(zmT hp hw ht hst hS hx hd).1.w;have hkb:((k:Int)==36000)=Oc:=by simp; omega
 rw [hd] at hc;unfold zyB;by_cases hv:v=0
 . subst hv;have hin:inB (stop-zF t (0,w,())) 0 1000=Oc:=by
    cases h:inB (stop-zF t (0,w,())) 0 1000 with
    | false=>rfl
    | true=>
     have:=zar.1 h;unfold zm9 at ha;rw [decide_eq_true J] at ha;cases ha
   simp only [e0,Zs,show ((0:Int)==0)=Od from rfl,cond_true,mwithin,zf (n:=stop-zF t (0,w,())) J J,hin,cond_false,hkb,hc,Bool.not_true,decide_eq_false (show ¬ (zdo p way t st (0,w,()) d).1.1.2.1>10000000000000000 by omega),zwA,zy (show k<9223372036854775807 by omega),zf (n:=tm+100) J J]
 . have hvb:(v==0)=Oc:=by simpa using hv
   simp only [e0,Zs,hvb,cond_false,hkb,hc,Bool.not_true,decide_eq_false (show ¬ (zdo p way t st (v,w,()) d).1.1.2.1>10000000000000000 by omega),zwA,zy (show k<9223372036854775807 by omega),zf (n:=tm+100) J J]
end
theorem zvT:∀ (n k:Nat) (tm l1 l2 l3 l4 l5 l6 a b v w:Int),k+n=36000->tm=100*k->zna t stop (v,w,())->∃ T,Lp (zyB (zj1 p way t st stops) stop) n ((k:Int),tm,0,l1,l2,l3,l4,l5,l6,a,b,0,0,0,v,w,0,0,0,0,0,0,0,0,0) T/\(match zlg p way t st stop n tm (l1,l2,l3,l4,l5,l6,()) a b (v,w,()) with | some (g,y)=>zzc T=Ob (g,y,Od) | none=>∃ L X,zzc T=Ob (L,X,Oc)):=by
 intro n;induction n with
 | zero=>
  intro k tm l1 l2 l3 l4 l5 l6 a b v w hk htm hx;unfold zlg;cases ha:zm9 t stop (v,w,()) with
  | true=>
   obtain ⟨T,h1,h2⟩:=zqm (stops:=stops) (k:=k) (tm:=tm) (l1:=l1) (l2:=l2) (l3:=l3) (l4:=l4) (l5:=l5) (l6:=l6) (a:=a) (b:=b) hp hw ht hst hS hx ha;exact ⟨T,Lp.done h1,h2⟩
  | false=>
   obtain ⟨T,h1,h2⟩:=zqn (stops:=stops) (k:=k) (tm:=tm) (l1:=l1) (l2:=l2) (l3:=l3) (l4:=l4) (l5:=l5) (l6:=l6) (a:=a) (b:=b) hp hw ht hst hS hx ha (.inl J);exact ⟨T,Lp.done h1,h2⟩
 | succ n ih=>
  intro k tm l1 l2 l3 l4 l5 l6 a b v w hk htm hx;unfold zlg;cases ha:zm9 t stop (v,w,()) with
  | true=>
   obtain ⟨T,h1,h2⟩:=zqm (stops:=stops) (k:=k) (tm:=tm) (l1:=l1) (l2:=l2) (l3:=l3) (l4:=l4) (l5:=l5) (l6:=l6) (a:=a) (b:=b) hp hw ht hst hS hx ha;exact ⟨T,Lp.done h1,h2⟩
  | false=>
   cases hd:zrp p way t st stop (v,w,()) with
   | none=>
    obtain ⟨T,h1,h2⟩:=zqn (stops:=stops) (k:=k) (tm:=tm) (l1:=l1) (l2:=l2) (l3:=l3) (l4:=l4) (l5:=l5) (l6:=l6) (a:=a) (b:=b) hp hw ht hst hS hx ha (.inr hd);exact ⟨T,Lp.done h1,h2⟩
   | some d=>
    have h1:=zyD (stops:=stops) (k:=k) (tm:=tm) (l1:=l1) (l2:=l2) (l3:=l3) (l4:=l4) (l5:=l5) (l6:=l6) (a:=a) (b:=b) hp hw ht hst hS hx ha J J hd;obtain ⟨T,h2,h3⟩:=ih (k+1) (tm+100) _ _ _ _ _ _ (max a (zdo p way t st (v,w,()) d).1.2.2.1) (max b (zdo p way t st (v,w,()) d).1.2.2.2.1) (zdo p way t st (v,w,()) d).1.1.1 (zdo p way t st (v,w,()) d).1.1.2.1 J J (zmT hp hw ht hst hS hx hd).1;exact ⟨T,Lp.step h1 h2,h3⟩
theorem zAk (hx:zna t stop x):∃ L X,zbD (zj1 p way t st stops) x stop=Ob (match zlg p way t st stop 36000 0 (0,0,0,0,0,0,()) 0 0 x with | some (g,y)=>(g,y,Od) | none=>(L,X,Oc)):=by
 obtain ⟨T,h1,h2⟩:=zvT (stops:=stops) hp hw ht hst hS 36000 0 0 0 0 0 0 0 0 0 0 x.1 x.2.1 J J hx;have hB:=h1.big Of;have e:zbD (zj1 p way t st stops) x stop=zzc T:=(congrArg (λo=>Zb o zzc) hB);rw [e];have e2:((x.1,x.2.1,()):zd)=x:=rfl;rw [e2] at h2;cases hl:zlg p way t st stop 36000 0 (0,0,0,0,0,0,()) 0 0 x with
 | some g=>rw [hl] at h2; exact ⟨default,default,h2⟩
 | none=>
  rw [hl] at h2;obtain ⟨L,X,h2⟩:=h2;exact ⟨L,X,h2⟩
end
def zmU (p_0:Plan) (p_1:List zL) (p_2:Train) (p_3:Int) (p_4:List Int) (i_281:Int) (x286:Int):(Int×Int×Int×Int×Int×Int×Int×Int×Int×Int×Int×Int)->Option ((Int×Int×Int×Int×Int×Int×Int×Int×Int×Int×Int×Int)⊕((Train×zd×Int×List Int×Int×Int×Int×Int×Bool×Int×Int×Int×Int×Int×Int×Int×Int×Int×Int×Int)⊕(List Leg×Bool×Int×Int×Int×Int×Int×Int×Int×Int×Int×Int×Int))):=(λs371=>
cond (decide (s371.2.2.2.2.2.2.2.2.2.2.1>0)) (cond (s371.1==36000) (Ob (.inr (.inr ([],Oc,s371.2.1,s371.2.2.1,s371.2.2.2.1,s371.2.2.2.2.1,s371.2.2.2.2.2.1,s371.2.2.2.2.2.2.1,s371.2.2.2.2.2.2.2.1,s371.2.2.2.2.2.2.2.2.1,s371.2.2.2.2.2.2.2.2.2.1,s371.2.2.2.2.2.2.2.2.2.2.1,s371.2.2.2.2.2.2.2.2.2.2.2)))) (cond (decide (s371.2.2.2.2.2.2.2.2.2.2.2>10000000000000000)) (Ob (.inr (.inr ([],Oc,s371.2.1,s371.2.2.1,s371.2.2.2.1,s371.2.2.2.2.1,s371.2.2.2.2.2.1,s371.2.2.2.2.2.2.1,s371.2.2.2.2.2.2.2.1,s371.2.2.2.2.2.2.2.2.1,s371.2.2.2.2.2.2.2.2.2.1,s371.2.2.2.2.2.2.2.2.2.2.1,s371.2.2.2.2.2.2.2.2.2.2.2)))) (Zb (zcF ((p_0,p_1,p_2,p_3,x286,()):zaf) (s371.2.2.2.2.2.2.2.2.2.2.1,s371.2.2.2.2.2.2.2.2.2.2.2,())) λy385=>
cond (!y385.2) (Ob (.inr (.inr ([],Oc,s371.2.1,s371.2.2.1,s371.2.2.2.1,s371.2.2.2.2.1,s371.2.2.2.2.2.1,s371.2.2.2.2.2.2.1,s371.2.2.2.2.2.2.2.1,s371.2.2.2.2.2.2.2.2.1,s371.2.2.2.2.2.2.2.2.2.1,s371.2.2.2.2.2.2.2.2.2.2.1,s371.2.2.2.2.2.2.2.2.2.2.2)))) (Zb (zU p_2 (s371.2.2.2.2.2.2.2.2.2.2.1,s371.2.2.2.2.2.2.2.2.2.2.2,())) λy389=>
Zb (zbe ((p_0,p_1,p_2,p_3,x286,()):zaf) y389) λy390=>
Zb (zbV p_2 (s371.2.2.2.2.2.2.2.2.2.2.1,s371.2.2.2.2.2.2.2.2.2.2.2,()) y385.1 y390 p_3) λy391=>
Zb (zaQ p_2 (s371.2.2.2.2.2.2.2.2.2.2.1,s371.2.2.2.2.2.2.2.2.2.2.2,()) y385.1 y390 p_3) λy392=>
Zb (zeW (s371.2.2.1,s371.2.2.2.1,s371.2.2.2.2.1,s371.2.2.2.2.2.1,s371.2.2.2.2.2.2.1,s371.2.2.2.2.2.2.2.1,()) y392.2.1) λy395=>
Ob (.inl (w64 (s371.1+1),w64 (s371.2.1+100),y395.1,y395.2.1,y395.2.2.1,y395.2.2.2.1,y395.2.2.2.2.1,y395.2.2.2.2.2.1,max s371.2.2.2.2.2.2.2.2.1 y391.1,max s371.2.2.2.2.2.2.2.2.2.1 y391.2,y392.1.1,y392.1.2.1)))))) (Zb (zU p_2 (s371.2.2.2.2.2.2.2.2.2.2.1,s371.2.2.2.2.2.2.2.2.2.2.2,())) λy396=>
Zb (idx p_4 i_281) λx397=>
cond (decide (y396<w64 (x397-1000))) (cond (s371.1==36000) (Ob (.inr (.inr ([],Oc,s371.2.1,s371.2.2.1,s371.2.2.2.1,s371.2.2.2.2.1,s371.2.2.2.2.2.1,s371.2.2.2.2.2.2.1,s371.2.2.2.2.2.2.2.1,s371.2.2.2.2.2.2.2.2.1,s371.2.2.2.2.2.2.2.2.2.1,s371.2.2.2.2.2.2.2.2.2.2.1,s371.2.2.2.2.2.2.2.2.2.2.2)))) (cond (decide (s371.2.2.2.2.2.2.2.2.2.2.2>10000000000000000)) (Ob (.inr (.inr ([],Oc,s371.2.1,s371.2.2.1,s371.2.2.2.1,s371.2.2.2.2.1,s371.2.2.2.2.2.1,s371.2.2.2.2.2.2.1,s371.2.2.2.2.2.2.2.1,s371.2.2.2.2.2.2.2.2.1,s371.2.2.2.2.2.2.2.2.2.1,s371.2.2.2.2.2.2.2.2.2.2.1,s371.2.2.2.2.2.2.2.2.2.2.2)))) (Zb (zcF ((p_0,p_1,p_2,p_3,x286,()):zaf) (s371.2.2.2.2.2.2.2.2.2.2.1,s371.2.2.2.2.2.2.2.2.2.2.2,())) λy403=>
cond (!y403.2) (Ob (.inr (.inr ([],Oc,s371.2.1,s371.2.2.1,s371.2.2.2.1,s371.2.2.2.2.1,s371.2.2.2.2.2.1,s371.2.2.2.2.2.2.1,s371.2.2.2.2.2.2.2.1,s371.2.2.2.2.2.2.2.2.1,s371.2.2.2.2.2.2.2.2.2.1,s371.2.2.2.2.2.2.2.2.2.2.1,s371.2.2.2.2.2.2.2.2.2.2.2)))) (Zb (zU p_2 (s371.2.2.2.2.2.2.2.2.2.2.1,s371.2.2.2.2.2.2.2.2.2.2.2,())) λy407=>
Zb (zbe ((p_0,p_1,p_2,p_3,x286,()):zaf) y407) λy408=>
Zb (zbV p_2 (s371.2.2.2.2.2.2.2.2.2.2.1,s371.2.2.2.2.2.2.2.2.2.2.2,()) y403.1 y408 p_3) λy409=>
Zb (zaQ p_2 (s371.2.2.2.2.2.2.2.2.2.2.1,s371.2.2.2.2.2.2.2.2.2.2.2,()) y403.1 y408 p_3) λy410=>
Zb (zeW (s371.2.2.1,s371.2.2.2.1,s371.2.2.2.2.1,s371.2.2.2.2.2.1,s371.2.2.2.2.2.2.1,s371.2.2.2.2.2.2.2.1,()) y410.2.1) λy413=>
Ob (.inl (w64 (s371.1+1),w64 (s371.2.1+100),y413.1,y413.2.1,y413.2.2.1,y413.2.2.2.1,y413.2.2.2.2.1,y413.2.2.2.2.2.1,max s371.2.2.2.2.2.2.2.2.1 y409.1,max s371.2.2.2.2.2.2.2.2.2.1 y409.2,y410.1.1,y410.1.2.1)))))) (Ob (.inr (.inl (p_2,(s371.2.2.2.2.2.2.2.2.2.2.1,s371.2.2.2.2.2.2.2.2.2.2.2,()),y396,p_4,i_281,x397,x397,w64 (x397-1000),decide (y396<w64 (x397-1000)),s371.2.1,s371.2.2.1,s371.2.2.2.1,s371.2.2.2.2.1,s371.2.2.2.2.2.1,s371.2.2.2.2.2.2.1,s371.2.2.2.2.2.2.2.1,s371.2.2.2.2.2.2.2.2.1,s371.2.2.2.2.2.2.2.2.2.1,s371.2.2.2.2.2.2.2.2.2.2.1,s371.2.2.2.2.2.2.2.2.2.2.2))))))
def zrq (p_2:Train) (a_281:List Leg) (i_281:Int):((Train×zd×Int×List Int×Int×Int×Int×Int×Bool×Int×Int×Int×Int×Int×Int×Int×Int×Int×Int×Int)⊕(List Leg×Bool×Int×Int×Int×Int×Int×Int×Int×Int×Int×Int×Int))->Option ((List Leg×Int×Int×Int)⊕((List Leg×Int×Int)⊕(List Leg×Bool))):=λt414=>
alt (λb416=>Zb (zU p_2 (b416.2.2.2.2.2.2.2.2.2.2.2.2.2.2.2.2.2.2.1,b416.2.2.2.2.2.2.2.2.2.2.2.2.2.2.2.2.2.2.2,())) λy418=>
Zb (zde 80 a_281 ([(b416.2.2.2.2.2.2.2.2.2.1,y418,(b416.2.2.2.2.2.2.2.2.2.2.1,b416.2.2.2.2.2.2.2.2.2.2.2.1,b416.2.2.2.2.2.2.2.2.2.2.2.2.1,b416.2.2.2.2.2.2.2.2.2.2.2.2.2.1,b416.2.2.2.2.2.2.2.2.2.2.2.2.2.2.1,b416.2.2.2.2.2.2.2.2.2.2.2.2.2.2.2.1,()),b416.2.2.2.2.2.2.2.2.2.2.2.2.2.2.2.2.1,b416.2.2.2.2.2.2.2.2.2.2.2.2.2.2.2.2.2.1,())])) λx419=>
Ob (.inl (x419,w64 (i_281+1),b416.2.2.2.2.2.2.2.2.2.2.2.2.2.2.2.2.2.2.1,b416.2.2.2.2.2.2.2.2.2.2.2.2.2.2.2.2.2.2.2))) (λb417=>Ob (.inr (.inr (b417.1,b417.2.1)))) t414
section
variable {p:Plan} {way:List zL} {t:Train} {st:Int} {stops:List Int} {x:zd} (hp:ziH p) (hw:zhH p way) (ht:zk4 t) (hst:0<=st/\st<t.2.2.2.2.2.2.2.2.2.1.length) {stop:Int} (hS:stop<=1000000000) {i:Int} (hi:idx stops i=Ob stop) (hi0:0<=i/\i<=1000000) (hs0:0<=stop)
include hp hw ht hst hS hi hi0 hs0
section
variable {k:Nat} {tm l1 l2 l3 l4 l5 l6 a b v w:Int} (hx:zna t stop (v,w,()))
include hx
theorem zop (ha:zm9 t stop (v,w,())=Od):∃ T,zmU p way t st stops i stop ((k:Int),tm,l1,l2,l3,l4,l5,l6,a,b,v,w)=Ob (.inr T)/\∀ acc:List Leg,acc.length<=1000000->zrq t acc i T=Ob (.inl (acc++[(tm,zF t (v,w,()),(l1,l2,l3,l4,l5,l6,()),a,b,())],w64 (i+1),v,w)):=by
 obtain ⟨_,_,e0,h0⟩:=zhE (stops:=stops) (st:=st) (p:=p) (way:=way) ht hS hx;have hs:=hx.s;unfold zm9 at ha;rw [Bool.and_eq_true,beq_iff_eq,decide_eq_true_eq] at ha;obtain ⟨ha1,ha2⟩:=ha;have ha1:v=0:=ha1;subst ha1;unfold zmU;simp only [e0,Zs,decide_eq_false (show ¬ (0:Int)>0 by omega),cond_false,hi,zf (n:=stop-1000) J J,decide_eq_false (show ¬ zF t (0,w,())<stop-1000 by omega)];refine ⟨_,rfl,λacc hacc=>?_⟩;unfold zrq;simp only [zbw,e0,Zs];rw [zaK Oj,Zs]
theorem zoq (ha:zm9 t stop (v,w,())=Oc) (hk:k=36000\/zrp p way t st stop (v,w,())=Oe):∃ T,zmU p way t st stops i stop ((k:Int),tm,l1,l2,l3,l4,l5,l6,a,b,v,w)=Ob (.inr T)/\∀ acc:List Leg,zrq t acc i T=Ob (.inr (.inr ([],Oc))):=by
 obtain ⟨hso,_,e0,h0⟩:=zhE (stops:=stops) (st:=st) (p:=p) (way:=way) ht hS hx;have hs:=hx.s;have hm:=ht.m;have hxw:10*t.1<=w/\w<=1000000000000000:=hx.w;have hxp:0<=v/\v<=25000*t.1:=hx.p;have hc:=zoo hp hw ht hst hx.p (show 10*t.1<=((v,w,()):zd).2.1/\((v,w,()):zd).2.1<=500000000000000000 from ⟨by show _<=w; omega,by show w<=_; omega⟩) stop;unfold zmU;by_cases hv:v=0
 . subst hv;have hlt:zF t (0,w,())<stop-1000:=by
    unfold zm9 at ha;rw [show (((0,w,()):zd).1==0)=Od from rfl,Bool.true_and,decide_eq_false_iff_not] at ha;omega
   simp only [e0,Zs,decide_eq_false (show ¬ (0:Int)>0 by omega),cond_false,hi,zf (n:=stop-1000) J J,decide_eq_true hlt,cond_true];by_cases hk0:k=36000
   . subst hk0;exact ⟨_,rfl,λacc=>rfl⟩
   . have hkb:((k:Int)==36000)=Oc:=by simp; omega
     have hd:=hk.resolve_left hk0;rw [hd] at hc;simp only [hkb,cond_false,decide_eq_false (show ¬ w>10000000000000000 by omega),hc,Zs,Bool.not_false,cond_true];exact ⟨_,rfl,λacc=>rfl⟩
 . simp only [decide_eq_true (show v>0 by omega),cond_true];by_cases hk0:k=36000
   . subst hk0;exact ⟨_,rfl,λacc=>rfl⟩
   . have hkb:((k:Int)==36000)=Oc:=by simp; omega
     have hd:=hk.resolve_left hk0;rw [hd] at hc;simp only [hkb,cond_false,decide_eq_false (show ¬ w>10000000000000000 by omega),hc,Zs,Bool.not_false,cond_true];exact ⟨_,rfl,λacc=>rfl⟩
theorem zvU (ha:zm9 t stop (v,w,())=Oc) (hk:k<36000) (htm:0<=tm/\tm<=3600000) {d:Int} (hd:zrp p way t st stop (v,w,())=Ob d):zmU p way t st stops i stop ((k:Int),tm,l1,l2,l3,l4,l5,l6,a,b,v,w)=Ob (.inl (((k+1:Nat):Int),tm+100,(zps (l1,l2,l3,l4,l5,l6,()) (zdo p way t st (v,w,()) d).1.2.1).1,(zps (l1,l2,l3,l4,l5,l6,()) (zdo p way t st (v,w,()) d).1.2.1).2.1,(zps (l1,l2,l3,l4,l5,l6,()) (zdo p way t st (v,w,()) d).1.2.1).2.2.1,(zps (l1,l2,l3,l4,l5,l6,()) (zdo p way t st (v,w,()) d).1.2.1).2.2.2.1,(zps (l1,l2,l3,l4,l5,l6,()) (zdo p way t st (v,w,()) d).1.2.1).2.2.2.2.1,(zps (l1,l2,l3,l4,l5,l6,()) (zdo p way t st (v,w,()) d).1.2.1).2.2.2.2.2.1,max a (zdo p way t st (v,w,()) d).1.2.2.1,max b (zdo p way t st (v,w,()) d).1.2.2.2.1,(zdo p way t st (v,w,()) d).1.1.1,(zdo p way t st (v,w,()) d).1.1.2.1)):=by
 obtain ⟨hso,_,e0,h0⟩:=zhE (stops:=stops) (st:=st) (p:=p) (way:=way) ht hS hx;have hs:=hx.s;have hm:=ht.m;have hxw:10*t.1<=w/\w<=1000000000000000:=hx.w;have hxp:0<=v/\v<=25000*t.1:=hx.p;have hc:=zoo hp hw ht hst hx.p (show 10*t.1<=((v,w,()):zd).2.1/\((v,w,()):zd).2.1<=500000000000000000 from ⟨by show _<=w; omega,by show w<=_; omega⟩) stop;have hkb:((k:Int)==36000)=Oc:=by simp; omega
 rw [hd] at hc;obtain ⟨_,q2,q3⟩:=zkU hd;have hfin:zpi t st d (zft p way (zF t (v,w,()))):=⟨hst,by omega,zhD hp hw ht hso _⟩;have hsl:=zgz (st:=st) (stop:=stop) hp hw ht (show 0<=zF t (v,w,())/\zF t (v,w,())<=4000000000000000000 by omega);have hpw:zbV t (v,w,()) d (zft p way (zF t (v,w,()))) st=Ob ((zdo p way t st (v,w,()) d).1.2.2.1,(zdo p way t st (v,w,()) d).1.2.2.2.1):=zAd ht hfin hso;have hsp:zaQ t (v,w,()) d (zft p way (zF t (v,w,()))) st=Ob ((zdo p way t st (v,w,()) d).1.1,(zdo p way t st (v,w,()) d).1.2.1,(zdo p way t st (v,w,()) d).2):=zmE ht hfin hso;have hsm:∀ l m:zac,zeW l m=Ob (zps l m):=λl m=>rfl;unfold zmU;by_cases hv:v=0
 . subst hv;have hlt:zF t (0,w,())<stop-1000:=by
    unfold zm9 at ha;rw [show (((0,w,()):zd).1==0)=Od from rfl,Bool.true_and,decide_eq_false_iff_not] at ha;omega
   simp only [e0,Zs,decide_eq_false (show ¬ (0:Int)>0 by omega),cond_false,hi,zf (n:=stop-1000) J J,decide_eq_true hlt,cond_true,hkb,decide_eq_false (show ¬ w>10000000000000000 by omega),hc,Bool.not_true,hsl,hpw,hsp,hsm,zy (show k<9223372036854775807 by omega),zf (n:=tm+100) J J]
 . simp only [e0,Zs,decide_eq_true (show v>0 by omega),cond_true,cond_false,hkb,decide_eq_false (show ¬ w>10000000000000000 by omega),hc,Bool.not_true,hsl,hpw,hsp,hsm,zy (show k<9223372036854775807 by omega),zf (n:=tm+100) J J]
end
theorem ztm:∀ (n k:Nat) (tm l1 l2 l3 l4 l5 l6 a b v w:Int),k+n=36000->tm=100*k->zna t stop (v,w,())->∃ T,Lp (zmU p way t st stops i stop) n ((k:Int),tm,l1,l2,l3,l4,l5,l6,a,b,v,w) T/\∀ acc:List Leg,acc.length<=1000000->zrq t acc i T=Ob (match zlg p way t st stop n tm (l1,l2,l3,l4,l5,l6,()) a b (v,w,()) with | some (g,y)=>.inl (acc++[g],w64 (i+1),y.1,y.2.1) | none=>.inr (.inr ([],Oc))):=by
 intro n;induction n with
 | zero=>
  intro k tm l1 l2 l3 l4 l5 l6 a b v w hk htm hx;unfold zlg;cases ha:zm9 t stop (v,w,()) with
  | true=>
   obtain ⟨T,h1,h2⟩:=zop (k:=k) (tm:=tm) (l1:=l1) (l2:=l2) (l3:=l3) (l4:=l4) (l5:=l5) (l6:=l6) (a:=a) (b:=b) hp hw ht hst hS hi hi0 hs0 hx ha;exact ⟨T,Lp.done h1,h2⟩
  | false=>
   obtain ⟨T,h1,h2⟩:=zoq (k:=k) (tm:=tm) (l1:=l1) (l2:=l2) (l3:=l3) (l4:=l4) (l5:=l5) (l6:=l6) (a:=a) (b:=b) hp hw ht hst hS hi hi0 hs0 hx ha (.inl J);exact ⟨T,Lp.done h1,λacc _=>h2 acc⟩
 | succ n ih=>
  intro k tm l1 l2 l3 l4 l5 l6 a b v w hk htm hx;unfold zlg;cases ha:zm9 t stop (v,w,()) with
  | true=>
   obtain ⟨T,h1,h2⟩:=zop (k:=k) (tm:=tm) (l1:=l1) (l2:=l2) (l3:=l3) (l4:=l4) (l5:=l5) (l6:=l6) (a:=a) (b:=b) hp hw ht hst hS hi hi0 hs0 hx ha;exact ⟨T,Lp.done h1,h2⟩
  | false=>
   cases hd:zrp p way t st stop (v,w,()) with
   | none=>
    obtain ⟨T,h1,h2⟩:=zoq (k:=k) (tm:=tm) (l1:=l1) (l2:=l2) (l3:=l3) (l4:=l4) (l5:=l5) (l6:=l6) (a:=a) (b:=b) hp hw ht hst hS hi hi0 hs0 hx ha (.inr hd);exact ⟨T,Lp.done h1,λacc _=>h2 acc⟩
   | some d=>
    have h1:=zvU (k:=k) (tm:=tm) (l1:=l1) (l2:=l2) (l3:=l3) (l4:=l4) (l5:=l5) (l6:=l6) (a:=a) (b:=b) hp hw ht hst hS hi hi0 hs0 hx ha J J hd;obtain ⟨T,h2,h3⟩:=ih (k+1) (tm+100) _ _ _ _ _ _ (max a (zdo p way t st (v,w,()) d).1.2.2.1) (max b (zdo p way t st (v,w,()) d).1.2.2.2.1) (zdo p way t st (v,w,()) d).1.1.1 (zdo p way t st (v,w,()) d).1.1.2.1 J J (zmT hp hw ht hst hS hx hd).1;exact ⟨T,Lp.step h1 h2,h3⟩
theorem zyE (hx:zna t stop x) (acc:List Leg) (hacc:acc.length<=1000000):Zb (iter (zmU p way t st stops i stop) big (0,0,0,0,0,0,0,0,0,0,x.1,x.2.1)) (zrq t acc i)=Ob (match zlg p way t st stop 36000 0 (0,0,0,0,0,0,()) 0 0 x with | some (g,y)=>.inl (acc++[g],w64 (i+1),y.1,y.2.1) | none=>.inr (.inr ([],Oc))):=by
 obtain ⟨T,h1,h2⟩:=ztm hp hw ht hst hS hi hi0 hs0 36000 0 0 0 0 0 0 0 0 0 0 x.1 x.2.1 J J hx;have hB:=h1.big Of;rw [show ((0:Nat):Int)=0 from rfl] at hB;rw [hB,Zs];exact h2 acc hacc
end
def zcK (stops:List Int) (k:Nat):Int:=stops.getD k 0
def zAl (stops:List Int):Bool:=(List.range (stops.length-1)).all λk=>!decide (zcK stops (k+1)<=zcK stops k)
def zfi (p:Plan) (way:List zL) (t:Train) (st:Int) (stops:List Int):Bool:=
 zaV p&&(zkS p way&&(trB t&&(inB st 0 (t.2.2.2.2.2.2.2.2.2.1.length-1)&&(inB (zp stops) 2 100&&(!decide (zcK stops 0<t.2.1)&&(zAl stops&&decide (zcK stops (stops.length-1)<=wlS p way)))))))
theorem zqo {stops:List Int} (hl:2<=stops.length/\stops.length<=100) {τ:Type} (r0 r1:τ) {F:Int->Option (Int⊕τ)}
 (hF:∀ s,F s=cond (decide (s<zp stops)) (Zb (idx stops s) λx37=>
Zb (idx stops (w64 (s-1))) λx38=>
cond (decide (x37<=x38)) (Ob (.inr r0)) (Ob (.inl (w64 (s+1))))) (Ob (.inr r1))):iter F big 1=Ob (if zAl stops then r1 else r0):=by
 refine zeD (λk=>((k+1:Nat):Int)) (stops.length-1) (λk=>!decide (zcK stops (k+1)<=zcK stops k)) r0 r1 rfl Of (λk hk=>?_) ?_
 . rw [hF,zQ (show k+1<stops.length by omega),cond_true,zo 0 J,Zs,show w64 (((k+1:Nat):Int)-1)=(k:Int) by rw [zf J J]; omega,zo 0 J,Zs,zy J];show cond (decide (zcK stops (k+1)<=zcK stops k)) _ _=_;cases decide (zcK stops (k+1)<=zcK stops k)<;>rfl
 . rw [hF,show stops.length-1+1=stops.length by omega,zS]; rfl
theorem zmV {A:Type} (n:Nat) (f:Nat->A):rlN (n+1) f=rlN n f++[f n]:=by
 unfold rlN;rw [List.range_succ,List.map_append]; rfl
theorem ztn {stops:List Int} (hl:2<=stops.length/\stops.length<=100):idx stops (w64 (zp stops-1))=Ob (zcK stops (stops.length-1)):=by
 rw [zq,show w64 ((stops.length:Int)-1)=((stops.length-1:Nat):Int) by rw [zf J J]; omega];exact zo 0 J
theorem zvV {p:Plan} {way:List zL} {t:Train} (hv:zaV p=Od) (hp:ziH p) (hw:zhH p way):iter (σ:=(Int×Int×List Int×List Int×List Int)) (τ:=(List Int×List Int×List Int)⊕(Option zaF×Bool×List Int×List Int×List Int)) (λs110=>
cond (decide (s110.2.1<zp way)) (Zb (idx way s110.2.1) λx113=>
Zb (zbb p x113.1) λy115=>
cond (y115.2 !=0) (Ob (.inr (.inr ((Oe:Option zaF),Oc,s110.2.2.2.2,s110.2.2.2.1,s110.2.2.1)))) (Zb (idx p.2.1 x113.1) λx117=>
cond x113.2.1 (Zb (zde 8 s110.2.2.2.2 ([w64 (s110.1+y115.1)])) λx126=>
Zb (zde 8 s110.2.2.2.1 ([x117.2.2.2.1])) λx128=>
Zb (zde 8 s110.2.2.1 ([w64 (0-x117.2.2.2.2.1)])) λx130=>
Ob (.inl (w64 (s110.1+y115.1),w64 (s110.2.1+1),x130,x128,x126))) (Zb (zde 8 s110.2.2.2.2 ([w64 (s110.1+y115.1)])) λx138=>
Zb (zde 8 s110.2.2.2.1 ([x117.2.2.2.1])) λx140=>
Zb (zde 8 s110.2.2.1 ([x117.2.2.2.2.1])) λx142=>
Ob (.inl (w64 (s110.1+y115.1),w64 (s110.2.1+1),x142,x140,x138))))) (Ob (.inr (.inl (s110.2.2.2.2,s110.2.2.2.1,s110.2.2.1))))) big (0,0,[],[],[])=Ob (.inl (zgy p way,zoh p way,zoi p way)):=by
  have hn:=hw.n;have key:∀ (k i:Nat),i+k=way.length->Lp (σ:=(Int×Int×List Int×List Int×List Int)) (τ:=(List Int×List Int×List Int)⊕(Option zaF×Bool×List Int×List Int×List Int)) (λs110=>
cond (decide (s110.2.1<zp way)) (Zb (idx way s110.2.1) λx113=>
Zb (zbb p x113.1) λy115=>
cond (y115.2 !=0) (Ob (.inr (.inr ((Oe:Option zaF),Oc,s110.2.2.2.2,s110.2.2.2.1,s110.2.2.1)))) (Zb (idx p.2.1 x113.1) λx117=>
cond x113.2.1 (Zb (zde 8 s110.2.2.2.2 ([w64 (s110.1+y115.1)])) λx126=>
Zb (zde 8 s110.2.2.2.1 ([x117.2.2.2.1])) λx128=>
Zb (zde 8 s110.2.2.1 ([w64 (0-x117.2.2.2.2.1)])) λx130=>
Ob (.inl (w64 (s110.1+y115.1),w64 (s110.2.1+1),x130,x128,x126))) (Zb (zde 8 s110.2.2.2.2 ([w64 (s110.1+y115.1)])) λx138=>
Zb (zde 8 s110.2.2.2.1 ([x117.2.2.2.1])) λx140=>
Zb (zde 8 s110.2.2.1 ([x117.2.2.2.2.1])) λx142=>
Ob (.inl (w64 (s110.1+y115.1),w64 (s110.2.1+1),x142,x140,x138))))) (Ob (.inr (.inl (s110.2.2.2.2,s110.2.2.2.1,s110.2.2.1))))) k (zak p way i,(i:Int),rlN i (zhq p way),rlN i (zlf p way),rlN i (λj=>zak p way (j+1))) (.inl (zgy p way,zoh p way,zoi p way)):=by
    intro k;induction k with
    | zero=>
      intro i hi;have:i=way.length:=J
      subst this;refine Lp.done ?_;simp only [zS,cond_false];rfl
    | succ k ih=>
      intro i hi;have hil:i<way.length:=J
      have hb:=zdN hp hw (i:=i) J;have hb1:=zdN hp hw (i:=i+1) J;have hsx:=ze0 p way i;have hml:mvl p way i=zgl p (way.getD i M0).1:=rfl;have hwe:w64 (zak p way i+zgl p (way.getD i M0).1)=zak p way (i+1):=by
        rw [← hml,← hsx,zf J J]
      obtain ⟨_,hs,hr⟩:=zmQ hp hw hil;have hh:zrn p ((way.getD i M0).1,Oc,())=Od:=ziI.2 (hw.m i hil);have hlen:zbb p (way.getD i M0).1=Ob (zgl p (way.getD i M0).1,0):=by
        rw [zog,hv,hh]; rfl
      refine Lp.step ?_ (ih (i+1) J);have a1:∀ (f:Nat->Int) (v:Int),v=f i->zde 8 (rlN i f) [v]=Ob (rlN (i+1) f):=λf v hvf=>by
        rw [zaK (by simp only [zgW,List.length_singleton]; omega),zmV,hvf]
      have z0:((0:Int)!=0)=Oc:=rfl;simp only [zQ hil,cond_true,zo M0 hil,Zs,hlen,z0,cond_false,hr,hwe,zy (show i<9223372036854775807 by omega)];have a2:=a1 (λj=>zak p way (j+1)) (zak p way (i+1)) rfl;have a3:=a1 (zlf p way) (zhQ p way i).2.2.2.1 rfl;simp only [a2,a3,Zs];unfold zhq at hs;cases hrv:(way.getD i M0).2.1 with
      | true=>
        rw [hrv] at hs;simp only [if_true] at hs;have e:w64 (0-(zhQ p way i).2.2.2.2.1)=zhq p way i:=by
          unfold zhq;rw [hrv,zf J J,Int.zero_sub]; rfl
        simp only [a1 (zhq p way) _ e,Zs,cond_true,cond_false]
      | false=>
        have e:(zhQ p way i).2.2.2.2.1=zhq p way i:=by
          unfold zhq;rw [hrv]; rfl
        simp only [a1 (zhq p way) _ e,Zs,cond_true,cond_false]
  have hL:=(key way.length 0 J).big Of;exact hL
theorem zqp (p:Plan) (way:List zL) (t:Train) (st:Int) (stops:List Int) (hwl:way.length<=9223372036854775807) (hsl:stops.length<=9223372036854775807):zdZ p way t st stops=Ob (if zfi p way t st stops then (Ob (zj1 p way t st stops),Od) else (Oe,Oc)):=by
 unfold zdZ zfi;rw [zsW,Zs,zjG p hwl,Zs];cases hv:zaV p with
 | false=>
  simp only [Bool.false_and,Bool.false_eq_true,if_false];cases (trB t&&inB st 0 (t.2.2.2.2.2.2.2.2.2.1.length-1))<;>rfl
 | true=>
 cases hwy:zkS p way with
 | false=>
  simp only [Bool.true_and,Bool.false_and,Bool.and_false,Bool.false_eq_true,if_false];cases (trB t&&inB st 0 (t.2.2.2.2.2.2.2.2.2.1.length-1))<;>rfl
 | true=>
 cases htr:trB t with
 | false=>rfl
 | true=>
 cases hin:inB st 0 (t.2.2.2.2.2.2.2.2.2.1.length-1) with
 | false=>rfl
 | true=>
 have hp:=zdd hv;have hw:=zfZ hwy;simp only [Bool.true_and,if_true,Bool.not_true,cond_false,show ((0:Int)!=0)=Oc from rfl,mwithin,Zs];cases hln:inB (zp stops) 2 100 with
 | false=>rfl
 | true=>
 have hl:=zar.1 hln;rw [zq] at hl;have hl:2<=stops.length/\stops.length<=100:=J
 have h0:idx stops 0=Ob (zcK stops 0):=zo (i:=0) 0 J;simp only [Bool.not_true,cond_false,h0,Zs,ztn hl,Bool.true_and];cases decide (zcK stops 0<t.2.1) with
 | true=>rfl
 | false=>
 simp only [cond_false,Zs,Bool.not_false,Bool.true_and];by_cases hgt:zcK stops (stops.length-1)>wlS p way
 . rw [decide_eq_true hgt,decide_eq_false (show ¬ zcK stops (stops.length-1)<=wlS p way by omega),Bool.and_false]; rfl
 . rw [decide_eq_false hgt,decide_eq_true (show zcK stops (stops.length-1)<=wlS p way by omega),Bool.and_true,cond_false];rw [zqo (τ:=Unit⊕(Option zaF×Bool)) hl (.inr (Oe,Oc)) (.inl ()) (λs=>rfl),Zs];cases zAl stops with
   | false=>rfl
   | true=>
    simp only [if_true,zbw,Zs];have hB:=zvV (t:=t) hv hp hw;exact congrArg (λo=>Zb o λt144:(List Int×List Int×List Int)⊕(Option zaF×Bool×List Int×List Int×List Int)=>alt (λb146=>Ob (Ob ((t,st,()),way,b146.1,b146.2.1,b146.2.2,stops,()),Od)) (λb147=>Ob (b147.1,b147.2.1)) t144) hB
theorem zto (p:Plan) (way:List zL) (t:Train) (st:Int) (stops:List Int) (hwl:way.length<=9223372036854775807) (hsl:stops.length<=9223372036854775807):zew p way t st stops=Ob (zfi p way t st stops):=by
 unfold zew zfi;rw [zkP,Zs];cases hv:zaV p with
 | false=>rfl
 | true=>
 have hp:=zdd hv;rw [ztf hp hwl,Zs];cases hwy:zkS p way with
 | false=>rfl
 | true=>
 have hw:=zfZ hwy;rw [zvw,Zs];cases htr:trB t with
 | false=>rfl
 | true=>
 have ht:=zph.1 htr;simp only [Bool.not_true,cond_false,Zs,rin,wlen ht,Bool.true_and];cases hin:inB st 0 (t.2.2.2.2.2.2.2.2.2.1.length-1) with
 | false=>rfl
 | true=>
 simp only [Bool.not_true,cond_false,Zs,Bool.true_and];cases hln:inB (zp stops) 2 100 with
 | false=>rfl
 | true=>
 have hl:=zar.1 hln;rw [zq] at hl;have hl:2<=stops.length/\stops.length<=100:=J
 have h0:idx stops 0=Ob (zcK stops 0):=zo (i:=0) 0 J;simp only [Bool.not_true,cond_false,h0,Zs,ztn hl,Bool.true_and];cases decide (zcK stops 0<t.2.1) with
 | true=>rfl
 | false=>
 simp only [cond_false,Zs,Bool.not_false,Bool.true_and];rw [zqo (τ:=Unit⊕Bool) hl (.inr Oc) (.inl ()) (λs=>rfl),Zs];cases zAl stops with
 | false=>rfl
 | true=>
  simp only [if_true,zbw,Zs,zwy hp hw,Bool.true_and]
def zvW (p_2:Train) (y1:Option zaF) (x7:List Int):(List Leg×Int×Int×Int)->Option ((List Leg×Int×Int×Int)⊕((List Leg×Int×Int)⊕(List Leg×Int×Int×Int))):=(λs32=>
cond (decide (s32.2.1<zp x7)) (Zb (idx x7 s32.2.1) λx35=>
Zb y1 λp36=>
Zb (zbD p36 (s32.2.2.1,s32.2.2.2,()) x35) λy37=>
cond (!y37.2.2) (Ob (.inr (.inr ([],4,s32.2.2.1,s32.2.2.2)))) (cond (decide (s32.2.2.2>10000000000000000)) (Ob (.inr (.inr ([],4,s32.2.2.1,s32.2.2.2)))) (Zb (zde 80 s32.1 ([y37.1])) λx44=>
Ob (.inl (x44,w64 (s32.2.1+1),y37.2.1.1,y37.2.1.2.1))))) (Ob (.inr (.inl (s32.1,s32.2.2.1,s32.2.2.2)))))
def zqq (p_0:Plan) (p_1:List zL) (p_2:Train) (p_3:Int) (p_4:List Int):(List Leg×Int×Int×Int)->Option ((List Leg×Int×Int×Int)⊕((List Leg×Int×Int)⊕(List Leg×Bool))):=λs281=>
cond (decide (s281.2.1<zp p_4)) (Zb (idx p_4 s281.2.1) λx286=>
Zb (iter (zmU p_0 p_1 p_2 p_3 p_4 s281.2.1 x286) big (0,0,0,0,0,0,0,0,0,0,s281.2.2.1,s281.2.2.2)) (zrq p_2 s281.1 s281.2.1)) (Ob (.inr (.inl (s281.1,s281.2.2.1,s281.2.2.2))))
section
variable (p:Plan) (way:List zL) (t:Train) (st:Int)
def zk5:List Int->zd->Option (List Leg×zd)
 | [],x=>Ob ([],x)
 | s::r,x=>match zlg p way t st s 36000 0 (0,0,0,0,0,0,()) 0 0 x with
  | none=>Oe
  | some (g,y)=>match zk5 r y with
   | none=>Oe
   | some (gs,z)=>Ob (g::gs,z)
end
structure RunOk (p:Plan) (way:List zL) (t:Train) (st:Int) (stops:List Int):Prop where
 hp:ziH p
 hw:zhH p way
 ht:zk4 t
 hst:0<=st/\st<t.2.2.2.2.2.2.2.2.2.1.length
 hn:2<=stops.length/\stops.length<=100
 h0:t.2.1<=zcK stops 0
 up:∀ k,k+1<stops.length->zcK stops k<zcK stops (k+1)
 la:zcK stops (stops.length-1)<=wlS p way
 b:wlS p way<=248000000
section
variable {p:Plan} {way:List zL} {t:Train} {st:Int} {stops:List Int} (R:RunOk p way t st stops)
include R
theorem zqr {i j:Nat} (h:i<=j) (hj:j<stops.length):zcK stops i<=zcK stops j:=by
 induction j with
 | zero=>rw [show i=0 by omega]; omega
 | succ j ih=>
  by_cases e:i=j+1
  . subst e; omega
  . have h1:=ih J J;have h2:=R.up j hj;omega
theorem ztp {i:Nat} (hi:i<stops.length):1<=zcK stops i/\zcK stops i<=248000000:=by
 have h1:=zqr R (Nat.zero_le i) hi;have h2:=zqr R (i:=i) (j:=stops.length-1) J J;have:=R.h0;have:=R.la;have:=R.b;have:=R.ht.len;omega
theorem zqs {stop:Int} (hS:stop<=1000000000):∀ (n:Nat) (tm:Int) (l:zac) (a b:Int) (x:zd) (g:Leg) (y:zd),zna t stop x->zlg p way t st stop n tm l a b x=Ob (g,y)->zna t stop y:=by
 intro n;induction n with
 | zero=>
  intro tm l a b x g y hx h;unfold zlg at h;split at h
  . cases h; exact hx
  . cases h
 | succ n ih=>
  intro tm l a b x g y hx h;unfold zlg at h;split at h
  . cases h; exact hx
  . cases hd:zrp p way t st stop x with
    | none=>rw [hd] at h; cases h
    | some d=>
     rw [hd] at h;exact ih _ _ _ _ _ _ _ (zmT R.hp R.hw R.ht R.hst hS hx hd).1 h
theorem zna.up {s s':Int} {x:zd} (h:zna t s x) (hs:s<=s'):zna t s' x:=⟨h.p,h.w,by have:=h.s; omega⟩
theorem zAm {i:Nat} (h:i+1<stops.length):stops.drop (i+1)=zcK stops (i+1)::stops.drop (i+2):=by
 rw [List.drop_eq_getElem_cons h];congr 1;unfold zcK;simp [h]
theorem zvX:∀ (k i:Nat) (acc:List Leg) (x:zd),i+k+1=stops.length->acc.length<=i->zna t (zcK stops i) x->∃ T,Lp (zvW t (Ob (zj1 p way t st stops)) (stops.drop 1)) k (acc,(i:Int),x.1,x.2.1) T/\(match zk5 p way t st (stops.drop (i+1)) x with | some (gs,z)=>T=.inl (acc++gs,z.1,z.2.1) | none=>∃ v w,T=.inr ([],4,v,w)):=by
 have hn:=R.hn;intro k;induction k with
 | zero=>
  intro i acc x hi hacc hx;refine ⟨.inl (acc,x.1,x.2.1),Lp.done ?_, ?_⟩
  ·unfold zvW;have:(stops.drop 1).length=i:=by rw [List.length_drop]; omega
   subst this;simp only [zS,cond_false]
  ·rw [List.drop_of_length_le J];unfold zk5;simp only [List.append_nil]
 | succ k ih=>
  intro i acc x hi hacc hx;have hi1:i+1<stops.length:=J
  have hb:=ztp R hi1;have hup:=R.up i hi1;have hxn:=zna.up R hx (s':=zcK stops (i+1)) J;have hw:x.2.1<=1000000000000000:=hx.w.2;have hdl:(stops.drop 1).length=stops.length-1:=by rw [List.length_drop]
  have hix:idx (stops.drop 1) (i:Int)=Ob (zcK stops (i+1)):=by
   rw [zo 0 J];congr 1;unfold zcK;simp [List.getD,Nat.add_comm]
  rw [zAm R hi1];obtain ⟨L,X,hleg⟩:=zAk (stops:=stops) R.hp R.hw R.ht R.hst (stop:=zcK stops (i+1)) J hxn;unfold zk5;cases hl:zlg p way t st (zcK stops (i+1)) 36000 0 (0,0,0,0,0,0,()) 0 0 x with
  | none=>
   rw [hl] at hleg;refine ⟨.inr ([],4,x.1,x.2.1),Lp.done ?_,⟨_,_,rfl⟩⟩;unfold zvW;simp only [zQ (show i<(stops.drop 1).length by omega),cond_true,hix,Zs];show (Zb (zbD (zj1 p way t st stops) x (zcK stops (i+1))) _:Option _)=_;rw [hleg]; rfl
  | some gy=>
   obtain ⟨g,y⟩:=gy;rw [hl] at hleg;have hy:=zqs R J _ _ _ _ _ _ _ _ hxn hl;obtain ⟨T,h1,h2⟩:=ih (i+1) (acc++[g]) y J Oj hy;refine ⟨T,Lp.step ?_ h1, ?_⟩
   ·unfold zvW;simp only [zQ (show i<(stops.drop 1).length by omega),cond_true,hix,Zs];show (Zb (zbD (zj1 p way t st stops) x (zcK stops (i+1))) _:Option _)=_;rw [hleg,Zs];simp only [Bool.not_true,cond_false,decide_eq_false (show ¬ x.2.1>10000000000000000 by omega)];rw [zaK Oj,Zs,zy J]
   ·simp only [];rw [show i+1+1=i+2 by omega] at h2;cases hd:zk5 p way t st (stops.drop (i+2)) y with
    | none=>rw [hd] at h2; exact h2
    | some gz=>
     rw [hd] at h2;simp only [] at h2 ⊢;rw [h2,List.append_assoc]; rfl
theorem ztq:∀ (k i:Nat) (acc:List Leg) (x:zd),i+k+1=stops.length->acc.length<=i->zna t (zcK stops i) x->∃ T,Lp (zqq p way t st stops) k (acc,((i+1:Nat):Int),x.1,x.2.1) T/\(match zk5 p way t st (stops.drop (i+1)) x with | some (gs,z)=>T=.inl (acc++gs,z.1,z.2.1)/\z.2.1<=1000000000000000 | none=>T=.inr ([],Oc)):=by
 have hn:=R.hn;intro k;induction k with
 | zero=>
  intro i acc x hi hacc hx;refine ⟨.inl (acc,x.1,x.2.1),Lp.done ?_, ?_⟩
  ·unfold zqq;have:stops.length=i+1:=J
   rw [← this];simp only [zS,cond_false]
  ·rw [List.drop_of_length_le J];unfold zk5;simp only [List.append_nil];exact ⟨trivial,hx.w.2⟩
 | succ k ih=>
  intro i acc x hi hacc hx;have hi1:i+1<stops.length:=J
  have hb:=ztp R hi1;have hup:=R.up i hi1;have hxn:=zna.up R hx (s':=zcK stops (i+1)) J;have hw:x.2.1<=1000000000000000:=hx.w.2;have hix:idx stops ((i+1:Nat):Int)=Ob (zcK stops (i+1)):=zo 0 hi1;rw [zAm R hi1];have hleg:=zyE (stops:=stops) (i:=((i+1:Nat):Int)) R.hp R.hw R.ht R.hst (stop:=zcK stops (i+1)) J hix J J hxn acc J;unfold zk5;cases hl:zlg p way t st (zcK stops (i+1)) 36000 0 (0,0,0,0,0,0,()) 0 0 x with
  | none=>
   rw [hl] at hleg;refine ⟨.inr ([],Oc),Lp.done ?_,rfl⟩;unfold zqq;simp only [zQ hi1,cond_true,hix,Zs];exact hleg
  | some gy=>
   obtain ⟨g,y⟩:=gy;rw [hl] at hleg;have hy:=zqs R J _ _ _ _ _ _ _ _ hxn hl;obtain ⟨T,h1,h2⟩:=ih (i+1) (acc++[g]) y J Oj hy;refine ⟨T,Lp.step ?_ h1, ?_⟩
   ·unfold zqq;simp only [zQ hi1,cond_true,hix,Zs];rw [zy J] at hleg;exact hleg
   ·simp only [];rw [show i+1+1=i+2 by omega] at h2;cases hd:zk5 p way t st (stops.drop (i+2)) y with
    | none=>rw [hd] at h2; exact h2
    | some gz=>
     rw [hd] at h2;simp only [] at h2 ⊢;refine ⟨?_,h2.2⟩;rw [h2.1,List.append_assoc]; rfl
def st0 (t:Train) (stops:List Int):zd:=(0,10*t.1*zcK stops 0,())
theorem zqt:w64 (w64 (10*t.1)*zcK stops 0)=(st0 t stops).2.1/\zna t (zcK stops 0) (st0 t stops):=by
 have hm:=R.ht.m;have hn:=R.hn;have hb:=ztp R (i:=0) J;have h1:=zcJ (a:=10*t.1) (b:=zcK stops 0) (A:=800000) (B:=248000000) ⟨by omega,by omega⟩ ⟨by omega,by omega⟩;refine ⟨?_,⟨by show (0:Int)<=0; omega,by show (0:Int)<=_; omega⟩,⟨?_,by show 10*t.1*zcK stops 0<=_; omega⟩, ?_⟩
 . rw [zf (n:=10*t.1) J J,zf J J]; rfl
 . show 10*t.1<=10*t.1*zcK stops 0;have h9:10*t.1*1<=10*t.1*zcK stops 0:=Int.mul_le_mul_of_nonneg_left hb.1 J;omega
 . show 10*t.1*zcK stops 0/(10*t.1)<=zcK stops 0;rw [Int.mul_ediv_cancel_left _ J];omega
def zhI (p:Plan) (way:List zL) (t:Train) (st:Int) (stops:List Int):Option (List Leg):=(zk5 p way t st (stops.drop 1) (st0 t stops)).map (·.1)
theorem ztr (hsb:zfi p way t st stops=Od):zch p way t st stops=Ob (match zhI p way t st stops with | some gs=>(gs,0) | none=>([],4)):=by
 have hn:=R.hn;have hw:=R.hw.n;unfold zch;rw [zqp p way t st stops J J,hsb];simp only [if_true,Zs,Bool.not_true,cond_false];have h0:idx stops 0=Ob (zcK stops 0):=zo (i:=0) 0 J;have hsl:slO stops 1 (zp stops)=Ob (stops.drop 1):=by
  rw [zqa (by rw [zq]; omega),zq];simp
 rw [h0,Zs,hsl,Zs,(zqt R).1];obtain ⟨T,h1,h2⟩:=zvX R (stops.length-1) 0 [] (st0 t stops) J Ol (zqt R).2;have hB:=h1.big Of;refine (congrArg (λo=>Zb o λt46:(List Leg×Int×Int)⊕(List Leg×Int×Int×Int)=>alt (λb48=>Ob (b48.1,(0:Int))) (λb49=>Ob (b49.1,b49.2.1)) t46) hB).trans ?_;rw [Zs];unfold zhI;rw [Nat.zero_add] at h2;cases hd:zk5 p way t st (stops.drop 1) (st0 t stops) with
 | some gz=>
  rw [hd] at h2;simp only [] at h2;rw [h2]; rfl
 | none=>
  rw [hd] at h2;obtain ⟨v,w,h2⟩:=h2;rw [h2]; rfl
theorem zrr:zex p way t st stops=Ob (match zhI p way t st stops with | some gs=>(gs,Od) | none=>([],Oc)):=by
 have hn:=R.hn;have hw:=R.hw.n;have h0:idx stops 0=Ob (zcK stops 0):=zo (i:=0) 0 J;obtain ⟨T,h1,h2⟩:=ztq R (stops.length-1) 0 [] (st0 t stops) J Ol (zqt R).2;have hB:=h1.big Of;rw [← (zqt R).1] at hB;unfold zex;rw [h0,Zs];refine (congrArg (λo=>Zb o λt421:(List Leg×Int×Int)⊕(List Leg×Bool)=>alt (λb423=>Ob (b423.1,decide (b423.2.2<=10000000000000000))) (λb424=>Ob (b424.1,b424.2)) t421) hB).trans ?_;rw [Zs];unfold zhI;rw [Nat.zero_add] at h2;cases hd:zk5 p way t st (stops.drop 1) (st0 t stops) with
 | some gz=>
  rw [hd] at h2;simp only [] at h2;rw [h2.1];simp only [zbw,decide_eq_true (show gz.2.2.1<=10000000000000000 by have:=h2.2; omega)];rfl
 | none=>
  rw [hd] at h2;simp only [] at h2;rw [h2]; rfl
end
theorem zts {l:List Leg} (hl:l.length<=1000):zaZ l (λx=>ze3 x)=Ob (l.map (·.1)):=by
  unfold zaZ;have hL:=zc2 (f:=λs7:List Int×Int=>
cond (decide (s7.2<zp l)) (Zb (idx l s7.2) λx10=>
Zb (ze3 x10) λy12=>
Zb (zde 8 s7.1 ([y12])) λx13=>
Ob (.inl (x13,w64 (s7.2+1)))) (Ob (.inr s7.1))) l (λi b=>(b,(i:Int))) (λ_ b c=>(.inl (b++[c.1]):List Int⊕List Int)) (λb=>b) (λi b=>b.length=i) [] (s0:=([],0)) rfl J rfl (λi h b hb=>by
      refine ⟨?_,λb' hb'=>?_⟩
      · simp only [];rw [zQ h,cond_true,zeZ,List.getElem?_eq_getElem h,Zs];show (Zb (Ob l[i].1) _:Option _)=_;rw [Zs,zaK Oj,Zs,zy J]
      · cases hb'; simp; omega) (λb _=>by simp only [zS,cond_false])
  rw [hL,zfL,Zs];have:∀ (l:List Leg) (b:List Int),l.foldl (λb c=>b++[c.1]) b=b++l.map (·.1):=by
    intro l;induction l with
    | nil=>intro b; simp
    | cons a l ih=>intro b; rw [List.foldl_cons,ih]; simp
  rw [this]; rfl
theorem ztt {p:Plan} {way:List zL} {t:Train} {st:Int} {stops:List Int} {gs:List Leg} {e:Int} (h:zch p way t st stops=Ob (gs,e)) (hl:gs.length<=1000):zb5 p way t st stops=Ob (if e=0 then (gs.map (·.1),0) else ([],e)):=by
 unfold zb5;rw [h,Zs];by_cases h0:e=0
 . subst h0;simp only [show ((0:Int)!=0)=Oc from rfl,cond_false,zts hl,Zs];rfl
 . have hb:(e !=0)=Od:=by simpa using h0
   simp only [hb,cond_true];rw [if_neg h0]
section
variable {p:Plan} {way:List zL} {t:Train} {st:Int} {stops:List Int} (R:RunOk p way t st stops)
include R
omit R in
theorem zqu:∀ {r:List Int} {x:zd} {gs:List Leg} {z:zd},zk5 p way t st r x=Ob (gs,z)->gs.length=r.length
 | [],x,gs,z,h=>by unfold zk5 at h; cases h; rfl
 | s::r,x,gs,z,h=>by
  unfold zk5 at h;cases hl:zlg p way t st s 36000 0 (0,0,0,0,0,0,()) 0 0 x with
  | none=>rw [hl] at h; cases h
  | some gy=>
   rw [hl] at h;simp only [] at h;cases hd:zk5 p way t st r gy.2 with
   | none=>rw [hd] at h; cases h
   | some q=>
    rw [hd] at h;cases h;have:=zqu hd;simp [this]
theorem zmW {gs:List Leg} (h:zhI p way t st stops=Ob gs):gs.length=stops.length-1:=by
 unfold zhI at h;cases hd:zk5 p way t st (stops.drop 1) (st0 t stops) with
 | none=>rw [hd] at h; cases h
 | some q=>
  rw [hd] at h;cases h;rw [zqu hd,List.length_drop]
end
theorem zjm {p:Plan} {way:List zL} {t:Train} {st:Int} {stops:List Int} (h:zfi p way t st stops=Od) (hb:wlS p way<=248000000):RunOk p way t st stops:=by
 unfold zfi at h;simp only [Bool.and_eq_true] at h;obtain ⟨h1,h2,h3,h4,h5,h6,h7,h8⟩:=h;have hp:=zdd h1;have hw:=zfZ h2;have h4:=zar.1 h4;have h5:=zar.1 h5;rw [zq] at h5;refine ⟨hp,hw,zph.1 h3,by omega,by omega, ?_,λk hk=>?_,of_decide_eq_true h8,hb⟩
 . rw [Bool.not_eq_true',decide_eq_false_iff_not] at h6; omega
 . unfold zAl at h7;have:=List.all_eq_true.1 h7 k (List.mem_range.2 J);rw [Bool.not_eq_true',decide_eq_false_iff_not] at this; omega
theorem ztu {p:Plan} {way:List zL} {t:Train} {st:Int} {stops:List Int} (hwl:way.length<=9223372036854775807) (hsl:stops.length<=9223372036854775807) (h:zfi p way t st stops=Oc):zch p way t st stops=Ob ([],2):=by
 unfold zch;rw [zqp p way t st stops hwl hsl,h];rfl
theorem zyF {p:Plan} {way:List zL} {t:Train} {st:Int} {stops:List Int} (h:zfi p way t st stops=Od) (hb:wlS p way<=248000000):zb5 p way t st stops=Ob (match zhI p way t st stops with | some gs=>(gs.map (·.1),0) | none=>([],4)):=by
 have R:=zjm h hb;have hn:=R.hn;have hd:=ztr R h;cases hl:zhI p way t st stops with
 | none=>
  rw [hl] at hd;simp only [] at hd;rw [ztt hd Ol]; rfl
 | some gs=>
  rw [hl] at hd;simp only [] at hd;have hlen:=zmW R hl;rw [ztt hd J]; rfl
theorem zAn {p:Plan} {way:List zL} {t:Train} {st:Int} {stops:List Int} (hwl:way.length<=9223372036854775807) (hsl:stops.length<=9223372036854775807) (h:zfi p way t st stops=Oc):zb5 p way t st stops=Ob ([],2):=by
 rw [ztt (ztu hwl hsl h) Ol]; rfl
section
variable {p:Plan} {way:List zL} {t:Train} {st:Int} {stops:List Int}
theorem zwB {stop:Int}:∀ (n:Nat) (tm:Int) (l:zac) (a b:Int) (x:zd) (g:Leg) (y:zd),zlg p way t st stop n tm l a b x=Ob (g,y)->tm<=g.1/\g.1<=tm+100*n
 | 0,tm,l,a,b,x,g,y,h=>by
  unfold zlg at h;split at h
  . cases h; simp
  . cases h
 | n+1,tm,l,a,b,x,g,y,h=>by
  unfold zlg at h;split at h
  . cases h; simp only []; omega
  . split at h
    . cases h
    . have:=zwB n _ _ _ _ _ _ _ h;omega
theorem zwC:∀ {r:List Int} {x:zd} {gs:List Leg} {z:zd},zk5 p way t st r x=Ob (gs,z)->∀ g∈gs,0<=g.1/\g.1<=3600000
 | [],x,gs,z,h=>by unfold zk5 at h; cases h; simp
 | s::r,x,gs,z,h=>by
  unfold zk5 at h;cases hl:zlg p way t st s 36000 0 (0,0,0,0,0,0,()) 0 0 x with
  | none=>rw [hl] at h; cases h
  | some gy=>
   rw [hl] at h;simp only [] at h;cases hd:zk5 p way t st r gy.2 with
   | none=>rw [hd] at h; cases h
   | some q=>
    rw [hd] at h;cases h;intro g hg;rcases List.mem_cons.1 hg with rfl | hg
    ·have:=zwB 36000 0 _ _ _ _ gy.1 gy.2 hl;omega
    ·exact zwC hd g hg
theorem zyG {gs:List Leg} (h:zhI p way t st stops=Ob gs):∀ g∈gs,0<=g.1/\g.1<=3600000:=by
 unfold zhI at h;cases hd:zk5 p way t st (stops.drop 1) (st0 t stops) with
 | none=>rw [hd] at h; cases h
 | some q=>
  rw [hd] at h;cases h;exact zwC hd
end
theorem ztv {n h:Int} (hh:0<h):-h<n.tmod h/\n.tmod h<h:=⟨by
 by_cases hn:0<=n
 . have:=Int.tmod_nonneg h hn; omega
 . have h1:(-n).tmod h<h:=Int.tmod_lt_of_pos _ hh;rw [Int.neg_tmod] at h1;omega,Int.tmod_lt_of_pos _ hh⟩
theorem zyH {n h:Int} (hh:0<h):(n.tmod h+h).tmod h=n%h:=by
 have hb:=ztv (n:=n) hh;rw [Int.tmod_eq_emod_of_nonneg J,Int.add_emod_right];have e:=Int.tmod_add_mul_tdiv n h;have e2:n=n.tmod h+h*n.tdiv h:=e.symm
 conv=>rhs; rw [e2]
 rw [Int.add_mul_emod_self_left]
theorem zyI {n h:Int} (hh:0<h) (h2:h<=1000000000000):(Zb (zq6 n h) λx=>zq6 (w64 (x+h)) h)=Ob (n%h):=by
 have hb:=ztv (n:=n) hh;unfold zq6;rw [if_neg J,Zs,if_neg J,zf J J,zyH hh]
theorem zAo {a n:Int}:a+(-a)%n=-((-a)/n)*n:=by
 have:=Int.emod_add_mul_ediv (-a) n;rw [Int.neg_mul,Int.mul_comm ((-a)/n) n];omega
theorem zB8 {a n:Int} (hn:0<n):(a+(-a)%n)/n=-((-a)/n):=by
 rw [zAo,Int.mul_ediv_cancel _ J]
theorem ztw {base start h:Int}:start+(base-start)%h=base+-((base-start)/h)*h:=by
 have:=Int.emod_add_mul_ediv (base-start) h;rw [Int.neg_mul,Int.mul_comm ((base-start)/h) h];omega
theorem zyJ {r h:Int} (hh:0<h):((r+h-1)/h-1)*h<r/\r<=(r+h-1)/h*h:=by
 have h1:=Int.emod_add_mul_ediv (r+h-1) h;have h2:=Int.emod_nonneg (r+h-1) (show h≠0 by omega);have h3:=Int.emod_lt_of_pos (r+h-1) hh;rw [Int.sub_mul,Int.one_mul,Int.mul_comm ((r+h-1)/h) h];omega
theorem zAp {k h:Int} (hh:0<h):(k*h).tdiv h=k:=by
 rw [Int.mul_tdiv_cancel _ J]
end Go.Ai.Sx