/- Tracks: which moves follow; ways and their lengths. -/
import Derived.Test.YtghlaibcihhbcaaGreatK13
set_option linter.unusedSimpArgs false
set_option linter.unusedVariables false
set_option linter.unusedSectionVars false
namespace Go.Ai.Sx
open Option renaming bind->Zb,bind_some->Zs
def zi7 (m:zR):zn:=(m.1,!m.2.1,())
def zbB (p:Plan) (m:zR):zcM:=nd p (atS p (zi7 m))
def znC (p:Plan) (m:zR):Int:=((zbB p m).2.2.1.idxOf (zi7 m):Nat)
def zdw (p:Plan) (m k:zR):Bool:=(zbB p m).2.2.1.zipIdx.any λy=>ziO (zbB p m) (znC p m) (y.2:Int)&&y.1==k
def zse (e:zn):Int:=if e.2.1 then 2*e.1+1 else 2*e.1
def zqa (n:Int):zR:=(n/2,n%2==1,())
theorem zo9 {e:zn} (h:0<=e.1):zqa (zse e)=e:=by
 obtain ⟨r,b,⟨⟩⟩:=e;unfold zqa zse;simp only [] at h;cases b with
 | false=>
  simp only [Bool.false_eq_true,if_false];rw [show 2*r/2=r by omega,show 2*r%2=0 by omega]; rfl
 | true=>
  simp only [if_true];rw [show (2*r+1)/2=r by omega,show (2*r+1)%2=1 by omega]; rfl
theorem zrG {e:zn} (h:0<=e.1/\e.1<1000):zdC (e.1,e.2.1,())=some (zse e):=by
 unfold zdC zse;simp only [];cases e.2.1 with
 | false=>
  simp only [cond_false,Bool.false_eq_true,if_false];rw [zk (by omega) (by omega)]
 | true=>
  simp only [cond_true,if_true];rw [zk (n:=2*e.1) (by omega) (by omega),zk (by omega) (by omega)]
theorem zwe {n:Int} (h:0<=n/\n<10000):zeS n=some (zqa n):=by
 unfold zeS;rw [zcB (by omega) (by omega),Zs];unfold zue;rw [if_neg (by omega),Zs,Int.tmod_eq_emod_of_nonneg h.1];rfl
section
variable {p:Plan} (hp:zi6 p) {m:zR} (hm:0<=m.1/\m.1<p.2.1.length)
include hp hm
theorem znn:0<=atS p (zi7 m)/\atS p (zi7 m)<p.1.length:=hp.at_bd (e:=zi7 m) hm
theorem zkp:nodeB (zbB p m)=true:=hp.nodeB (znn hp hm)
theorem zom:zi7 m∈(zbB p m).2.2.1:=hp.mem (e:=zi7 m) hm
theorem zup:0<=znC p m/\znC p m<(zbB p m).2.2.1.length/\znC p m<=10:=by
 have h1:=List.idxOf_lt_length_iff.2 (zom hp hm);have h2:=zeY (zkp hp hm);unfold znC;omega
theorem zju {e:zn} (he:e∈(zbB p m).2.2.1):0<=e.1/\e.1<p.2.1.length:=by
 have hb:=znn hp hm;have h:=hp.at_ (atS p (zi7 m)).toNat (by omega);unfold zbB at he;rw [hp.nd_eq hb] at he;exact (h e he).1
theorem zrH:mget (plS p) (zi7 m)=some (znC p m):=by
 have hb:=znn hp hm;have h1:=List.idxOf_lt_length_iff.2 (zom hp hm);have hn:zbB p m=p.1[(atS p (zi7 m)).toNat]'(by omega):=hp.nd_eq hb;have h2:=zwb hp (i:=(atS p (zi7 m)).toNat) (k:=(zbB p m).2.2.1.idxOf (zi7 m)) (by omega) (by rw [← hn]; exact h1);have h3:(p.1[(atS p (zi7 m)).toNat]'(by omega)).2.2.1[(zbB p m).2.2.1.idxOf (zi7 m)]'(by rw [← hn]; exact h1)=zi7 m:=by
  simp only [← hn];exact List.getElem_idxOf h1
 rw [h3] at h2;exact h2
def zmb (p:Plan) (m:zR):List Int:=((zbB p m).2.2.1.zipIdx.filter λy=>ziO (zbB p m) (znC p m) (y.2:Int)).map λy=>zse y.1
omit hm hp in
theorem zrI:(zmb p m).length<=(zbB p m).2.2.1.length:=by
 unfold zmb;rw [List.length_map];have:=List.length_filter_le (λy:zn×Nat=>ziO (zbB p m) (znC p m) (y.2:Int)) (zbB p m).2.2.1.zipIdx;rw [List.length_zipIdx] at this;exact this
theorem ztM {n:Int} (h:n∈zmb p m):0<=n/\n<10000:=by
 unfold zmb at h;obtain ⟨y,hy,rfl⟩:=List.mem_map.1 h;have h1:=(List.mem_filter.1 hy).1;have h2:=zju hp hm (e:=y.1) (List.fst_mem_of_mem_zipIdx h1);have hR:=hp.r;unfold zse;split<;>omega
theorem zrJ:iter (σ:=((List Int)×Int)) (τ:=(List Int)) (λs20=>
cond (decide (s20.2<(zl (zbB p m).2.2.1))) (Zb (idx (zbB p m).2.2.1 s20.2) λx23=>
Zb (zee m) λy27=>
Zb (za9 ((zbB p m,()):zav) ((mget (zol p).2.2.1 y27).getD 0) s20.2) λy28=>
cond (y28) (Zb (zdC ((x23.1,x23.2.1,()):zR)) λy30=>
Zb (zcL 8 s20.1 ([y30])) λx31=>
some (.inl (x31,(w64 (s20.2+1))))) (some (.inl (s20.1,(w64 (s20.2+1)))))) (some (.inr s20.1))) big ([],0)=some (zmb p m):=by
 have hR:=hp.r;have hes:=zeY (zkp hp hm);have hpb:=zup hp hm;rw [zcA (s0:=(([]:List Int),(0:Int))) (zbB p m).2.2.1 (λk c=>(c,(k:Int))) (λk c e=>(.inl (if ziO (zbB p m) (znC p m) (k:Int) then c++[zse e] else c):List Int⊕List Int)) id (λk c=>c.length<=k) [] rfl (by omega) (by simp)]
 ·rw [zkj (λk c e=>if ziO (zbB p m) (znC p m) (k:Int) then c++[zse e] else c) id];unfold zmb;have key:∀ (L:List (zn×Nat)) (c:List Int),L.foldl (λc y=>if ziO (zbB p m) (znC p m) (y.2:Int) then c++[zse y.1] else c) c=c++(L.filter λy=>ziO (zbB p m) (znC p m) (y.2:Int)).map λy=>zse y.1:=by
   intro L;induction L with
   | nil=>intro c; simp
   | cons y L ih=>
    intro c;rw [List.foldl_cons,ih,List.filter_cons];cases ziO (zbB p m) (znC p m) (y.2:Int) with
    | true=>simp
    | false=>simp
  rw [key,List.nil_append]; rfl
 ·intro k hk c hc;simp only [];refine ⟨?_,λb' hb=>?_⟩
  ·have he:=zju hp hm (List.getElem_mem hk);rw [zM hk,cond_true,zbr hk,Zs];show Zb (some (zi7 m)) _=_;rw [Zs];have hpl:(zol p).2.2.1=plS p:=rfl;rw [hpl,zrH hp hm,Option.getD_some,zwd (zkp hp hm) ⟨hpb.1,hpb.2.2⟩ (by omega),Zs,zrG (e:=(zbB p m).2.2.1[k]) ⟨he.1,by omega⟩,Zs,za8 (by simp only [List.length_singleton]; omega),Zs,zG (by omega)];cases ziO (zbB p m) (znC p m) (k:Int)<;>rfl
  ·cases hb;split
   ·rw [List.length_append,List.length_singleton]; omega
   ·omega
 ·intro c _;simp only [];rw [zV,cond_false]; rfl
theorem zpW (k:zR):zaR (zol p) m k=some (zdw p m k):=by
  have hb:=znn hp hm;have hes:=zeY (zkp hp hm);have hlen:=zrI (p:=p) (m:=m);obtain ⟨ys,hy,hperm⟩:=zrE (xs:=zmb p m) (by omega);unfold zaR zcp zbj;rw [Zs];simp only [];show Zb (Zb (some (zi7 m)) _) _=_;rw [Zs];have hend:=(zij (p:=(zol p).1) (e:=zi7 m) hm).1;have hpl:atS (zol p).1 (zi7 m)=atS p (zi7 m):=rfl;rw [hend,Zs,hpl];have hn:idx (zol p).1.1 (atS p (zi7 m))=some (zbB p m):=zdL (l:=p.1) (d:=N0) hb.1 hb.2;rw [hn,Zs,zrJ hp hm,Zs,hy,Zs];have hys:∀ n∈ys,0<=n/\n<10000:=λn h=>ztM hp hm (hperm.mem_iff.1 h);have hyl:ys.length<=4:=by have:=hperm.length_eq; omega
  have key:iter (σ:=(Int×(Bool⊕Bool))) (τ:=(Bool⊕Bool)⊕(Bool⊕Bool)) (λs50=>
cond (decide (s50.1<(zl ys))) (Zb (idx ys s50.1) λx53=>
Zb (zeS x53) λy54=>
Zb (goL s50.2) λs55=>
Zb (cond (y54==k) (some (.inr true)) (some (.inl s55))) λy56=>
cond (!(y56).isLeft) (some (.inr (.inr y56))) (some (.inl ((w64 (s50.1+1)),y56)))) (some (.inr (.inl s50.2)))) big (0,(.inl false))=some (if ys.any (λn=>zqa n==k) then .inr (.inr true) else .inl (.inl false)):=by
    rw [zcA (s0:=((0:Int),(Sum.inl false:Bool⊕Bool))) ys (λi (_:Unit)=>((i:Int),(Sum.inl false:Bool⊕Bool))) (λ_ _ n=>if zqa n==k then .inr (.inr (.inr true)) else .inl ()) (λ_=>.inl (.inl false)) (λ_ _=>True) () rfl (by omega) trivial]
    · congr 1;have:∀ (l:List Int) (i:Nat),zff (λ_ (_:Unit) n=>if zqa n==k then .inr (.inr (.inr true)) else .inl ()) (λ_=>.inl (.inl false)) l i ()=(if l.any (λn=>zqa n==k) then .inr (.inr true) else .inl (.inl false):(Bool⊕Bool)⊕(Bool⊕Bool)):=by
        intro l;induction l with
        | nil=>intro i; rfl
        | cons n l ih=>
          intro i;rw [zff,List.any_cons];cases h:(zqa n==k) with
          | true=>rfl
          | false=>
            simp only [Bool.false_eq_true,if_false,Bool.false_or];exact ih (i+1)
      exact this ys 0
    · intro i hi _ _;refine ⟨?_,λ_ _=>trivial⟩;simp only [];rw [zM hi,cond_true,zbr hi,Zs,zwe (hys _ (List.getElem_mem hi)),Zs,zG (by omega)];cases (zqa ys[i]==k)<;>rfl
    · intro _ _;simp only [];rw [zV,cond_false]
  rw [key];have hany:ys.any (λn=>zqa n==k)=zdw p m k:=by
    have h1:ys.any (λn=>zqa n==k)=(zmb p m).any (λn=>zqa n==k):=by
      rw [Bool.eq_iff_iff,List.any_eq_true,List.any_eq_true];constructor
      · rintro ⟨n,h,q⟩; exact ⟨n,hperm.mem_iff.1 h,q⟩
      · rintro ⟨n,h,q⟩; exact ⟨n,hperm.mem_iff.2 h,q⟩
    rw [h1];unfold zmb zdw;rw [Bool.eq_iff_iff,List.any_eq_true,List.any_eq_true];constructor
    · rintro ⟨n,h,q⟩
      obtain ⟨y,hy,rfl⟩:=List.mem_map.1 h;obtain ⟨hy1,hy2⟩:=List.mem_filter.1 hy;rw [zo9 (zju hp hm (List.fst_mem_of_mem_zipIdx hy1)).1] at q;exact ⟨y,hy1,by rw [hy2,q]; rfl⟩
    · rintro ⟨y,h,q⟩
      rw [Bool.and_eq_true] at q;refine ⟨zse y.1,List.mem_map.2 ⟨y,List.mem_filter.2 ⟨h,q.1⟩,rfl⟩, ?_⟩;rw [zo9 (zju hp hm (List.fst_mem_of_mem_zipIdx h)).1];exact q.2
  rw [hany];cases zdw p m k<;>rfl
omit hp hm in
theorem zno (n:zcM) (e:zn) (hl:n.2.2.1.length<=1000):zdu n e=some (if e∈n.2.2.1 then ((n.2.2.1.idxOf e:Nat):Int) else -1):=by
  unfold zdu;have key:∀ (k i:Nat),i+k=n.2.2.1.length->Lp (λs5:Int=>
cond (decide (s5<(zl n.2.2.1))) (Zb (idx n.2.2.1 s5) λx9=>
cond (x9==e) (some (Sum.inr (Sum.inr s5:Unit⊕Int))) (some (.inl (w64 (s5+1))))) (some (.inr (.inl ())))) k (i:Int) (if e∈n.2.2.1.drop i then .inr ((i+(n.2.2.1.drop i).idxOf e:Nat):Int) else .inl ()):=by
    intro k;induction k with
    | zero=>
      intro i hi;have:i=n.2.2.1.length:=by omega
      subst this;rw [List.drop_length,if_neg (by simp)];exact Lp.done (by simp only [zV,cond_false])
    | succ k ih=>
      intro i hi;have hlt:i<n.2.2.1.length:=by omega
      rw [List.drop_eq_getElem_cons hlt];by_cases hx:n.2.2.1[i]=e
      · rw [if_pos (by rw [hx]; exact List.mem_cons_self),hx,List.idxOf_cons_self];refine Lp.done ?_;rw [zM hlt,cond_true,zbr hlt,Zs,hx,beq_self_eq_true]; rfl
      · have hb:(n.2.2.1[i]==e)=false:=by simpa using hx
        have h2:=ih (i+1) (by omega);have hmem:(e∈n.2.2.1[i]::n.2.2.1.drop (i+1))↔e∈n.2.2.1.drop (i+1):=by
          rw [List.mem_cons];exact ⟨λh=>h.resolve_left (λq=>hx q.symm),.inr⟩
        have hix:(n.2.2.1[i]::n.2.2.1.drop (i+1)).idxOf e=(n.2.2.1.drop (i+1)).idxOf e+1:=by rw [List.idxOf_cons,hb,cond_false]
        rw [hix];have e2:(if e∈n.2.2.1[i]::n.2.2.1.drop (i+1) then (Sum.inr ((i+((n.2.2.1.drop (i+1)).idxOf e+1):Nat):Int):Unit⊕Int) else .inl ())=if e∈n.2.2.1.drop (i+1) then .inr ((i+1+(n.2.2.1.drop (i+1)).idxOf e:Nat):Int) else .inl ():=by
          by_cases q:e∈n.2.2.1.drop (i+1)
          · rw [if_pos (hmem.2 q),if_pos q,show i+((n.2.2.1.drop (i+1)).idxOf e+1)=i+1+(n.2.2.1.drop (i+1)).idxOf e by omega]
          · rw [if_neg (λw=>q (hmem.1 w)),if_neg q]
        rw [e2];refine Lp.step (s':=((i+1:Nat):Int)) ?_ h2;rw [zM hlt,cond_true,zbr hlt,Zs,hb,cond_false,zG (by omega)]
  have h0:=key n.2.2.1.length 0 (by omega);rw [show ((0:Nat):Int)=0 from rfl,List.drop_zero] at h0;rw [h0.big (by simp only [big]; omega),Zs];by_cases q:e∈n.2.2.1
  · rw [if_pos q,if_pos q,zof,Nat.zero_add]
  · rw [if_neg q,if_neg q,zbC]
theorem zon (k:zR):zcy p m k=some (zdw p m k):=by
 have hb:=znn hp hm;have hok:=zkp hp hm;have hes:=zeY hok;have hpb:=zup hp hm;unfold zcy;show Zb (some (zi7 m)) _=_;rw [Zs,(zij (p:=p) (e:=zi7 m) hm).2,Zs];have hn:idx p.1 (atS p (zi7 m))=some (zbB p m):=zdL (l:=p.1) (d:=N0) hb.1 hb.2;rw [hn,Zs];show Zb (some (zi7 m)) _=_;rw [Zs,zno _ _ (by omega),if_pos (zom hp hm),Zs];show Zb (some (k:zn)) _=_;rw [Zs,zno _ _ (by omega)];have hpos:(((zbB p m).2.2.1.idxOf (zi7 m):Nat):Int)=znC p m:=rfl;rw [hpos,decide_eq_true (show znC p m>=0 from hpb.1)];simp only [cond_true,Zs];have hndp:(zbB p m).2.2.1.Nodup:=hp.ndn hb;by_cases hk:(k:zn)∈(zbB p m).2.2.1
 . have hlt:=List.idxOf_lt_length_iff.2 hk;rw [if_pos hk,decide_eq_true (Int.natCast_nonneg _),cond_true,ztL _ ⟨hpb.1,hpb.2.2⟩ (by omega)];simp only [Zs];congr 1;unfold zdw;rw [Bool.eq_iff_iff,List.any_eq_true];constructor
   . intro h;refine ⟨((k:zn),(zbB p m).2.2.1.idxOf k),List.mem_zipIdx_iff_getElem?.2 (by rw [List.getElem?_eq_getElem hlt,List.getElem_idxOf]), ?_⟩;rw [Bool.and_eq_true];exact ⟨h,by simp⟩
   . rintro ⟨⟨e,j⟩,h1,h2⟩
     rw [Bool.and_eq_true,beq_iff_eq] at h2;obtain ⟨h2,h3⟩:=h2;simp only [] at h2 h3;subst h3;have hj:=List.mem_zipIdx_iff_getElem?.1 h1;obtain ⟨hj1,hj2⟩:=List.getElem?_eq_some_iff.1 hj;have:(zbB p m).2.2.1.idxOf e=j:=by
      have h4:=List.getElem_idxOf hlt;exact (List.getElem_inj hndp).1 (h4.trans hj2.symm)
     rw [this];exact h2
 . rw [if_neg hk];have:zdw p m k=false:=by
    unfold zdw;rw [List.any_eq_false]
    rintro ⟨e,j⟩ h1 h2
    rw [Bool.and_eq_true,beq_iff_eq] at h2;exact hk (h2.2▸List.fst_mem_of_mem_zipIdx h1)
   rw [this];rfl
end
end Go.Ai.Sx
/- Tracks: ways and their lengths,in the program and in the reference. -/
namespace Go.Ai.Sx
open Option renaming bind->Zb,bind_some->Zs
def zqb (p:Plan) (m:zR):Bool:=inB m.1 0 (p.2.1.length-1)
def M0:zR:=(0,false,())
def zkq (p:Plan) (l:List zR) (i:Nat):Bool:=zqb p (l.getD i M0)&&(decide (i=0)||zdw p (l.getD (i-1) M0) (l.getD i M0))
def zkA (p:Plan) (l:List zR):Bool:=(List.range l.length).all (zkq p l)&&inB (zl l) 1 2000
def wlS (p:Plan) (l:List zR):Int:=zlg (λi=>zje p (l.getD i M0).1) 0 l.length
theorem zjv {p:Plan} {m:zR}:zqb p m=true↔0<=m.1/\m.1<p.2.1.length:=by
 unfold zqb;rw [zay];omega
section
variable {p:Plan} (hp:zi6 p)
include hp
theorem zmc {l:List zR} (hl:l.length<=9223372036854775807) {has:zR->Option Bool} {fol:zR->zR->Option Bool} (hh:∀ m,has m=some (zqb p m)) (hf:∀ m k:zR,0<=m.1/\m.1<(p.2.1.length:Int)->fol m k=some (zdw p m k))
    {F:Int->Option (Int⊕(Unit⊕Bool))} (hF:∀ (i:Nat) (_:i<l.length),F i=Zb (has (l.getD i M0)) λy37=>cond (!y37) (some (.inr (.inr false))) (cond (decide ((i:Int)>0)) (Zb (fol (l.getD (i-1) M0) (l.getD i M0)) λy42=>cond (!y42) (some (.inr (.inr false))) (some (.inl (w64 ((i:Int)+1))))) (some (.inl (w64 ((i:Int)+1))))))
    (he:F l.length=some (.inr (.inl ()))):∀ (k i:Nat),i+k=l.length->(∀ j,j<i->zqb p (l.getD j M0)=true)->Lp F k (i:Int) (if (List.range' i k).all (zkq p l) then .inl () else .inr false)
  | 0,i,hi,_=>by
    have:i=l.length:=by omega
    subst this;exact Lp.done he
  | k+1,i,hi,hj=>by
    have hlt:i<l.length:=by omega
    rw [List.range'_succ,List.all_cons];cases hs:zqb p (l.getD i M0) with
    | false=>
      have:zkq p l i=false:=by unfold zkq; rw [hs]; rfl
      rw [this];refine Lp.done ?_;rw [hF i hlt,hh,hs]; rfl
    | true=>
      have hj':∀ j,j<i+1->zqb p (l.getD j M0)=true:=λj h=>by
        by_cases e:j=i
        · rw [e]; exact hs
        · exact hj j (by omega)
      have ih:=zmc hl hh hf hF he k (i+1) (by omega) hj';by_cases h0:i=0
      · subst h0;have:zkq p l 0=true:=by unfold zkq; rw [hs]; rfl
        rw [this,Bool.true_and];refine Lp.step (s':=((0+1:Nat):Int)) ?_ ih;rw [hF 0 hlt,hh,hs]; rfl
      · have hw:zkq p l i=zdw p (l.getD (i-1) M0) (l.getD i M0):=by unfold zkq; rw [hs,decide_eq_false h0]; rfl
        rw [hw];have hprev:=zjv.1 (hj (i-1) (by omega));have hFi:F i=cond (!zdw p (l.getD (i-1) M0) (l.getD i M0)) (some (.inr (.inr false))) (some (.inl ((i+1:Nat):Int))):=by
          rw [hF i hlt,hh,hs,decide_eq_true (show (i:Int)>0 by omega),hf _ _ hprev,zG (by omega)]; rfl
        cases hb:zdw p (l.getD (i-1) M0) (l.getD i M0) with
        | false=>
          rw [hb] at hFi;rw [Bool.false_and];exact Lp.done hFi
        | true=>
          rw [hb] at hFi;rw [Bool.true_and];exact Lp.step hFi ih
theorem zuq (m:zR):zbm (zol p) m=some (zqb p m):=by
 unfold zbm;rw [twithin,Zs];have:w64 (zl (zol p).1.2.1-1)=p.2.1.length-1:=wrails hp.r;rw [this]; rfl
theorem ztN (m:zR):zeV p m=some (zqb p m):=by
 unfold zeV;rw [zru,Zs,wrails hp.r]; rfl
theorem zwf {l:List zR} (hl:l.length<=9223372036854775807):zbV (zol p) l=some (zkA p l):=by
  unfold zbV;have hL:=zmc hp hl (λm=>zuq hp m) (λm k hm=>zpW hp hm k) (F:=λs22=>
cond (decide (s22<(zl l))) (Zb (idx l s22) λx25=>
Zb (zbm (zol p) x25) λy37=>
cond (!y37) (some (.inr (.inr false))) (cond (decide (s22>0)) (Zb (idx l (w64 (s22-1))) λx41=>
Zb (zaR (zol p) x41 x25) λy42=>
cond (!y42) (some (.inr (.inr false))) (some (.inl (w64 (s22+1))))) (some (.inl (w64 (s22+1)))))) (some (.inr (.inl ())))) (λi hi=>by
      rw [zM hi,cond_true,zy M0 hi,Zs];by_cases h0:i=0
      · subst h0; rfl
      · rw [decide_eq_true (show (i:Int)>0 by omega),zk (n:=(i:Int)-1) (by omega) (by omega),show (i:Int)-1=((i-1:Nat):Int) by omega,zy M0 (show i-1<l.length by omega)];rfl) (by simp only [zV,cond_false]) l.length 0 (by omega) (λj hj=>by omega)
  rw [show ((0:Nat):Int)=0 from rfl] at hL;rw [hL.big (by simp only [big]; omega),Zs,← List.range_eq_range'];unfold zkA;cases (List.range l.length).all (zkq p l) with
  | false=>rfl
  | true=>simp only [if_true,zbC,twithin]; rfl
theorem zrK {l:List zR} (hl:l.length<=9223372036854775807):zeA p l=some (zkA p l):=by
  unfold zeA;have hL:=zmc hp hl (λm=>ztN hp m) (λm k hm=>zon hp hm k) (F:=λs26=>
cond (decide (s26<(zl l))) (Zb (idx l s26) λx43=>
Zb (zeV p x43) λy44=>
cond (!y44) (some (.inr (.inr false))) (cond (decide (s26>0)) (Zb (idx l (w64 (s26-1))) λx48=>
Zb (idx l s26) λx49=>
Zb (zcy p x48 x49) λy50=>
cond (!y50) (some (.inr (.inr false))) (some (.inl (w64 (s26+1))))) (some (.inl (w64 (s26+1)))))) (some (.inr (.inl ())))) (λi hi=>by
      rw [zM hi,cond_true,zy M0 hi,Zs];by_cases h0:i=0
      · subst h0; rfl
      · rw [decide_eq_true (show (i:Int)>0 by omega),zk (n:=(i:Int)-1) (by omega) (by omega),show (i:Int)-1=((i-1:Nat):Int) by omega,zy M0 (show i-1<l.length by omega)];rfl) (by simp only [zV,cond_false]) l.length 0 (by omega) (λj hj=>by omega)
  rw [show ((0:Nat):Int)=0 from rfl] at hL;rw [hL.big (by simp only [big]; omega),Zs,← List.range_eq_range'];unfold zkA;cases (List.range l.length).all (zkq p l) with
  | false=>rfl
  | true=>simp only [if_true,zbC,zru]; rfl
structure zhQ (p:Plan) (l:List zR):Prop where
 n:1<=l.length/\l.length<=2000
 m:∀ i,i<l.length->0<=(l.getD i M0).1/\(l.getD i M0).1<p.2.1.length
omit hp in
theorem ziP {l:List zR} (h:zkA p l=true):zhQ p l:=by
 unfold zkA at h;rw [Bool.and_eq_true,zay,zx] at h;refine ⟨by omega,λi hi=>?_⟩;have:=List.all_eq_true.1 h.1 i (List.mem_range.2 hi);unfold zkq at this;rw [Bool.and_eq_true] at this;exact zjv.1 this.1
theorem zoo {i:Int} (hi:0<=i/\i<p.2.1.length):1<=zje p i/\zje p i<=31000000:=hp.len hi
theorem zyQ {l:List zR} (h:zhQ p l):0<=wlS p l/\wlS p l<=31000000*l.length:=
 zkm _ _ λi _ hi=>by have:=zoo hp (h.m i (by omega)); omega
theorem zrL {l:List zR} (h:zhQ p l) {lg:zR->Option Int} (hg:∀ m:zR,0<=m.1/\m.1<p.2.1.length->lg m=some (zje p m.1)):iter (σ:=(Int×Int)) (τ:=(Int)) (λs6=>
cond (decide (s6.2<(zl l))) (Zb (idx l s6.2) λx9=>
Zb (lg x9) λx12=>
some (.inl ((w64 (s6.1+x12)),(w64 (s6.2+1))))) (some (.inr s6.1))) big (0,0)=some (wlS p l):=by
  have hn:=h.n;have hL:=zl5 (B:=31000000) (N:=l.length) (f:=λi=>zje p (l.getD i M0).1) (F:=λs6:Int×Int=>
cond (decide (s6.2<(zl l))) (Zb (idx l s6.2) λx9=>
Zb (lg x9) λx12=>
some (.inl ((w64 (s6.1+x12)),(w64 (s6.2+1))))) (some (.inr s6.1))) (by omega) (by omega) (by omega) (λi hi=>by have:=zoo hp (h.m i hi); omega) l.length 0 0 (by omega) (by omega) (by omega) (λi s _ hi=>by
      simp only [];rw [zM hi,cond_true,zy M0 hi,Zs,hg _ (h.m i hi),Zs]) (λs=>by simp only [zV,cond_false])
  rw [show ((0:Nat):Int)=0 from rfl,Int.zero_add] at hL;exact hL.big (by simp only [big]; omega)
theorem zrM {i:Int} (hi:0<=i/\i<p.2.1.length):idx (zol p).2.1 i=some (zje p i):=by
 show idx ((List.range p.2.1.length).map λi:Nat=>zje p (i:Int)) i=_;rw [zrm hi.1 (by rw [List.length_map,List.length_range]; exact hi.2)];simp only [List.getElem_map,List.getElem_range];rw [Int.toNat_of_nonneg hi.1]
theorem zxK {l:List zR} (h:zhQ p l):zaU (zol p) l=some (wlS p l):=by
 unfold zaU;rw [zrL hp h (lg:=λx9=>idx (zol p).2.1 x9.1) (λm hm=>zrM hp hm)]; rfl
theorem zkr {i:Int} (hi:0<=i/\i<p.2.1.length):zaW p i=some (zje p i):=zpT hi (hp.ix hi) (hp.spots hi).1
theorem zur {l:List zR} (h:zhQ p l):zbQ p l=some (wlS p l):=by
 unfold zbQ;rw [zrL hp h (lg:=λx9=>zaW p x9.1) (λm hm=>zkr hp hm)]; rfl
end
theorem zi8 (p:Plan) {l:List zR} (hl:l.length<=9223372036854775807):zbN p l=some (if zbe p&&zkA p l then (wlS p l,0) else (0,2)):=by
 unfold zbN;rw [zrF];cases hv:zbe p with
 | false=>rfl
 | true=>
  have hp:=zeG hv;simp only [if_true,Zs,Bool.not_true,cond_false,zwf hp hl,Bool.true_and];cases hw:zkA p l with
  | false=>rfl
  | true=>
   simp only [Bool.not_true,cond_false,zxK hp (ziP hw),if_true,Zs]
theorem zrN (p:Plan) (i:Int):zbL p i=some (if zbe p&&zqb p (i,false,()) then (zje p i,0) else (0,2)):=by
 unfold zbL;rw [zrF];cases hv:zbe p with
 | false=>rfl
 | true=>
  have hp:=zeG hv;simp only [if_true,Zs,Bool.not_true,cond_false,zuq hp,Bool.true_and];cases hw:zqb p (i,false,()) with
  | false=>rfl
  | true=>
   have hi:=zjv.1 hw;simp only [Bool.not_true,cond_false,zrM hp hi,if_true,Zs]
end Go.Ai.Sx
/- Motion: looking for a place in a rising row. -/
namespace Go.Ai.Sx
open Option renaming bind->Zb,bind_some->Zs
theorem ztO (a b:Int):zaT a b=some (decide (a<b)):=by
 unfold zaT;simp only [zbT,Zs,bne_self_eq_false,cond_false]
theorem ztP {a b:Int} (h:0<=a+b/\a+b<4611686018427387904):zlb .u64 (IntKind.u64.wrap (w64 (a+b))) 1=some ((a+b)/2)/\w64 ((a+b)/2)=(a+b)/2:=by
 have e1:w64 (a+b)=a+b:=zk (by omega) (by omega);have e2:IntKind.u64.wrap (a+b)=a+b:=by simp only [IntKind.wrap,IntKind.bits,IntKind.signed]; simp; omega
 rw [e1,e2];unfold zlb;rw [if_pos (by omega)];refine ⟨?_,zk (by omega) (by omega)⟩;congr 1;simp [IntKind.bits];rw [Int.fdiv_eq_ediv_of_nonneg _ (by omega)]
def Rising (xs:List Int):Prop:=∀ i j,i<j->j<xs.length->xs.getD i 0<xs.getD j 0
theorem bsearch {xs:List Int} (hr:Rising xs) (hl:xs.length<=1000000) (t:Int):∃ (i:Nat) (b:Bool),zE xs t=some ((i:Int),b)/\i<=xs.length/\(∀ j,j<i->xs.getD j 0<t)/\∀ j,i<=j->j<xs.length->t<=xs.getD j 0:=by
  have hT:Tot (λr:Int=>∃ i:Nat,r=(i:Int)/\i<=xs.length/\(∀ j,j<i->xs.getD j 0<t)/\∀ j,i<=j->j<xs.length->t<=xs.getD j 0) (iter (σ:=(Int×Int)) (τ:=(Int)) (λs6=>
cond (decide (s6.1<s6.2)) (Zb (zlb .u64 (IntKind.u64.wrap (w64 (s6.1+s6.2))) 1) λx9=>
Zb (idx xs (w64 x9)) λx10=>
Zb (zaT x10 t) λy11=>
cond (y11) (some (.inl ((w64 ((w64 x9)+1)),s6.2))) (some (.inl (s6.1,(w64 x9))))) (some (.inr s6.1))) big (0,(zl xs))):=by
    refine Tot.iter (λs:Int×Int=>∃ lo hi:Nat,s=((lo:Int),(hi:Int))/\lo<=hi/\hi<=xs.length/\(∀ j,j<lo->xs.getD j 0<t)/\∀ j,hi<=j->j<xs.length->t<=xs.getD j 0) _ (λs=>(s.2-s.1).toNat) ⟨0,xs.length,rfl,by omega,by omega,λj hj=>by omega,λj h1 h2=>by omega⟩ (by simp only [zx,big]; omega) ?_
    rintro s ⟨lo,hi,rfl,h1,h2,h3,h4⟩
    simp only [];by_cases hlt:lo<hi
    · obtain ⟨e1,e2⟩:=ztP (a:=(lo:Int)) (b:=(hi:Int)) ⟨by omega,by omega⟩;obtain ⟨m,hm⟩:∃ m:Nat,((lo:Int)+hi)/2=(m:Int):=⟨(((lo:Int)+hi)/2).toNat,by omega⟩;rw [decide_eq_true (show (lo:Int)<hi by omega),cond_true,e1,Zs,e2,hm,zy 0 (show m<xs.length by omega),Zs,ztO,Zs];by_cases hc:xs.getD m 0<t
      · rw [decide_eq_true hc,cond_true,zG (by omega)];refine Tot.some ⟨⟨m+1,hi,rfl,by omega,h2,λj hj=>?_,h4⟩,by simp only []; omega⟩;by_cases e:j=m
        · rw [e]; exact hc
        · have:=hr j m (by omega) (by omega); omega
      · rw [decide_eq_false hc,cond_false];refine Tot.some ⟨⟨lo,m,rfl,by omega,by omega,h3,λj hj hjl=>?_⟩,by simp only []; omega⟩;by_cases e:j=m
        · rw [e]; omega
        · have:=hr m j (by omega) hjl; omega
    · have:lo=hi:=by omega
      subst this;rw [decide_eq_false (by omega),cond_false];exact Tot.some ⟨lo,rfl,by omega,h3,h4⟩
  obtain ⟨r,h1,i,rfl,h2,h3,h4⟩:=hT;have hb:∃ b:Bool,zE xs t=some ((i:Int),b):=by
    unfold zE;rw [h1,Zs];by_cases hlt:i<xs.length
    · rw [zM hlt,cond_true,zy 0 hlt,Zs];cases (xs.getD i 0==t) with
      | true=>exact ⟨true,rfl⟩
      | false=>
        simp only [cond_false,zc4,Zs,bne_self_eq_false];exact ⟨false,rfl⟩
    · rw [decide_eq_false (show ¬ (i:Int)<zl xs by rw [zx]; omega)];exact ⟨false,rfl⟩
  obtain ⟨b,hb⟩:=hb;exact ⟨i,b,hb,h2,h3,h4⟩
section
variable (p:Plan) (way:List zR)
def mvl (i:Nat):Int:=zje p (way.getD i M0).1
def zbc (i:Nat):Int:=zlg (mvl p way) 0 i
def zhy (i:Nat):Rail:=rl0 p (way.getD i M0).1
def zkG (i:Nat):Int:=(zhy p way i).2.2.2.1
def zg7 (i:Nat):Int:=if (way.getD i M0).2.1 then -(zhy p way i).2.2.2.2.1 else (zhy p way i).2.2.2.2.1
def zgf:List Int:=rlN way.length λi=>zbc p way (i+1)
def znp:List Int:=rlN way.length (zkG p way)
def znq:List Int:=rlN way.length (zg7 p way)
end
theorem znr (f:Nat->Int):∀ (k a:Nat),zlg f a (k+1)=zlg f a k+f (a+k)
 | 0,a=>by simp [zlg]
 | k+1,a=>by
  rw [zlg,znr f k (a+1),zlg];rw [show a+1+k=a+(k+1) by omega];omega
theorem zhm (p:Plan) (way:List zR) (i:Nat):zbc p way (i+1)=zbc p way i+mvl p way i:=by
 unfold zbc;rw [znr,Nat.zero_add]
theorem zfF {A:Type} (n:Nat) (f:Nat->A):(rlN n f).length=n:=by unfold rlN; simp
theorem ziQ {A:Type} {n:Nat} {f:Nat->A} {i:Nat} (d:A) (h:i<n):(rlN n f).getD i d=f i:=by
 unfold rlN;simp [List.getD,h]
section
variable {p:Plan} {way:List zR} (hp:zi6 p) (hw:zhQ p way)
include hp hw
theorem zrO {i:Nat} (hi:i<way.length):1<=mvl p way i/\mvl p way i<=31000000:=zoo hp (hw.m i hi)
theorem zll {i j:Nat} (h:i<j) (hj:j<=way.length):zbc p way i<zbc p way j:=by
 induction j with
 | zero=>omega
 | succ j ih=>
  have h1:=zrO hp hw (i:=j) (by omega);rw [zhm];by_cases e:i=j
  . subst e; omega
  . have:=ih (by omega) (by omega); omega
theorem zhn {i:Nat} (hi:i<=way.length):0<=zbc p way i/\zbc p way i<=62000000000:=by
 have h1:=zkm (f:=mvl p way) (B:=31000000) i 0 (λj _ hj=>by have:=zrO hp hw (i:=j) (by omega); omega);have:=hw.n;unfold zbc;omega
theorem zks:Rising (zgf p way):=by
 intro i j h hj;unfold zgf at *
 rw [zfF] at hj;rw [ziQ 0 (by omega),ziQ 0 hj];exact zll hp hw (by omega) (by omega)
theorem zmd {i:Nat} (hi:i<way.length):(1<=zkG p way i/\zkG p way i<=50000)/\(-120<=zg7 p way i/\zg7 p way i<=120)/\idx p.2.1 (way.getD i M0).1=some (zhy p way i):=by
 have hm:=hw.m i hi;have h1:=hp.rail hm;unfold zii zl7 at h1;simp only [Bool.and_eq_true,zay] at h1;obtain ⟨⟨_,_,_,h2,h3⟩,_⟩:=h1;refine ⟨h2, ?_,zdL hm.1 hm.2⟩;unfold zg7 zhy;split<;>omega
end
def ixF (f:Nat->Bool):Nat->Nat->Nat
 | 0,i=>i
 | k+1,i=>if f i then i else ixF f k (i+1)
theorem zus {f:Nat->Bool}:∀ {k i r:Nat},i<=r->r<=i+k->(∀ j,i<=j->j<r->f j=false)->(r<i+k->f r=true)->ixF f k i=r
 | 0,i,r,h1,h2,_,_=>by unfold ixF; omega
 | k+1,i,r,h1,h2,h3,h4=>by
  unfold ixF;by_cases e:i=r
  . subst e;rw [if_pos (h4 (by omega))]
  . rw [if_neg (by rw [h3 i (Nat.le_refl i) (by omega)]; simp)];exact zus (by omega) (by omega) (λj h5 h6=>h3 j (by omega) h6) (λh5=>h4 (by omega))
def zxL (p:Plan) (way:List zR) (f:Int):Nat:=ixF (λi=>decide (f<zbc p way (i+1))) (way.length-1) 0
def ze9 (p:Plan) (way:List zR) (f:Int):Int:=zg7 p way (zxL p way f)
theorem zrP {p:Plan} {way:List zR} (h:1<=way.length) (f:Int):zxL p way f<way.length:=by
 have key:∀ (g:Nat->Bool) (k i:Nat),ixF g k i<=i+k:=by
  intro g k;induction k with
  | zero=>intro i; exact Nat.le_refl _
  | succ k ih=>
   intro i;unfold ixF;split
   . omega
   . have:=ih (i+1); omega
 have:=key (λi=>decide (f<zbc p way (i+1))) (way.length-1) 0;unfold zxL;omega
def zil (p:Plan) (way:List zR) (t:Train) (st:Int) (stops:List Int):zau:=((t,st,()),way,zgf p way,znp p way,znq p way,stops,())
section
variable {p:Plan} {way:List zR} {t:Train} {st:Int} {stops:List Int} {x:zb} (hp:zi6 p) (hw:zhQ p way) (ht:zkz t) (hx:zo0 t x)
include hp hw ht hx
theorem zns:0<=zt t x/\zt t x<=4000000000000000000:=by
 have hm:=ht.m;have h:=hx.w;unfold zt;have h1:0<=x.2.1/(10*t.1):=Int.ediv_nonneg h.1 (by omega);have h2:x.2.1/(10*t.1)<=x.2.1:=Int.ediv_le_self _ h.1;omega
theorem ztQ:zaJ (zil p way t st stops) x=some (ze9 p way (zt t x)):=by
 have hn:=hw.n;have hpl:=zns hp hw ht hx;unfold zaJ;show Zb (zU (t,st,()) x) _=_;rw [(zg4 ht hx st).1,Zs];have e1:x.2.1/(10*t.1)=zt t x:=rfl;rw [e1,zk (n:=zt t x+1) (by omega) (by omega)];show Zb (zE (zgf p way) (zt t x+1)) _=_;have hel:(zgf p way).length=way.length:=by unfold zgf; rw [zfF]
 obtain ⟨i,b,h1,h2,h3,h4⟩:=bsearch (zks hp hw) (by omega) (zt t x+1);rw [h1,Zs];show Zb (idx (znq p way) (min (i:Int) (w64 (zl (znq p way)-1)))) _=_;have hsl:(znq p way).length=way.length:=by unfold znq; rw [zfF]
 rw [zx,hsl,zk (by omega) (by omega)];have hge:∀ j,j<way.length->(zgf p way).getD j 0=zbc p way (j+1):=λj hj=>by unfold zgf; rw [ziQ 0 hj]
 have hix:zxL p way (zt t x)=min i (way.length-1):=by
  unfold zxL;refine zus (by omega) (by omega) (λj _ hj=>?_) (λhlt=>?_)
  . have:=h3 j (by omega);rw [hge j (by omega)] at this;exact decide_eq_false (by omega)
  . have:=h4 (min i (way.length-1)) (by omega) (by omega);rw [hge _ (by omega)] at this;exact decide_eq_true (by omega)
 have hmin:min (i:Int) ((way.length:Int)-1)=((min i (way.length-1):Nat):Int):=by omega
 rw [hmin,zy 0 (by omega),Zs,← hix];unfold znq ze9;rw [ziQ 0 (zrP hn.1 _)]
theorem zho (f:Int):-120<=ze9 p way f/\ze9 p way f<=120:=(zmd hp hw (zrP hw.n.1 f)).2.1
end
end Go.Ai.Sx
/- Motion: a run's limit,and the reference's slope and limit. -/
namespace Go.Ai.Sx
open Option renaming bind->Zb,bind_some->Zs
def znt (g:Nat->Bool) (v:Nat->Int):Nat->Nat->Int->Int
 | 0,_,b=>b
 | k+1,i,b=>znt g v k (i+1) (if g i then min b (v i) else b)
theorem zjw (g:Nat->Bool) (v:Nat->Int) (l:Nat):∀ (k i:Nat) (b:Int),znt g v (k+l) i b=znt g v l (i+k) (znt g v k i b)
 | 0,i,b=>by rw [Nat.zero_add]; rfl
 | k+1,i,b=>by
  rw [show k+1+l=(k+l)+1 by omega,znt,zjw g v l k (i+1),znt,show i+1+k=i+(k+1) by omega]
theorem zme {g:Nat->Bool} {v:Nat->Int}:∀ (k i:Nat) (b:Int),(∀ j,i<=j->j<i+k->g j=false)->znt g v k i b=b
 | 0,_,_,_=>rfl
 | k+1,i,b,h=>by
  rw [znt,h i (Nat.le_refl i) (by omega)];exact zme k (i+1) b λj h1 h2=>h j (by omega) (by omega)
def ovB (p:Plan) (way:List zR) (L f:Int) (i:Nat):Bool:=decide (f-L<zbc p way (i+1))&&(decide (zbc p way i<f)||decide (i=0))
def zmo (p:Plan) (way:List zR) (t:Train) (f:Int):Int:=znt (ovB p way t.2.1 f) (zkG p way) way.length 0 t.2.2.1
section
variable {p:Plan} {way:List zR} {t:Train} {st:Int} {stops:List Int} {x:zb} (hp:zi6 p) (hw:zhQ p way) (ht:zkz t)
include hp hw ht
theorem ztR {i j:Nat} (h:i<=j) (hj:j<=way.length):zbc p way i<=zbc p way j:=by
 by_cases e:i=j
 . subst e; omega
 . have:=zll hp hw (i:=i) (j:=j) (by omega) hj; omega
theorem ztS (hx:zo0 t x):zb9 (zil p way t st stops) x=some (zmo p way t (zt t x)):=by
  have hn:=hw.n;have hl:=ht.len;have hpl:=zns hp hw ht hx;unfold zb9;show Zb (zU (t,st,()) x) _=_;rw [(zg4 ht hx st).1,Zs];have e1:x.2.1/(10*t.1)=zt t x:=rfl;rw [e1];show Zb (zE (zgf p way) (w64 (w64 (zt t x-t.2.1)+1))) _=_;rw [zk (n:=zt t x-t.2.1) (by omega) (by omega),zk (n:=zt t x-t.2.1+1) (by omega) (by omega)];have hel:(zgf p way).length=way.length:=by unfold zgf; rw [zfF]
  have hll:(znp p way).length=way.length:=by unfold znp; rw [zfF]
  have hge:∀ j,j<way.length->(zgf p way).getD j 0=zbc p way (j+1):=λj hj=>by unfold zgf; rw [ziQ 0 hj]
  have hgl:∀ j,j<way.length->(znp p way).getD j 0=zkG p way j:=λj hj=>by unfold znp; rw [ziQ 0 hj]
  obtain ⟨i0,b,h1,h2,h3,h4⟩:=bsearch (zks hp hw) (by omega) (zt t x-t.2.1+1);rw [h1,Zs];have key:∀ (k i:Nat) (v:Int),i+k=way.length->i0<=i->(i=i0\/zbc p way i<zt t x) ->
      Lp (λs8:Int×Int=>
cond (decide (s8.2<(zl (zgf p way)))) (Zb (idx (znp p way) s8.2) λx11=>
Zb (idx (zgf p way) s8.2) λx12=>
cond (decide (x12>=zt t x)) (some (.inr (min s8.1 x11))) (some (.inl ((min s8.1 x11),(w64 (s8.2+1)))))) (some (.inr s8.1))) k (v,(i:Int)) (znt (ovB p way t.2.1 (zt t x)) (zkG p way) k i v):=by
    intro k;induction k with
    | zero=>
      intro i v hi _ _;refine Lp.done ?_;have:i=(zgf p way).length:=by omega
      subst this;simp only [zV,cond_false];rfl
    | succ k ih=>
      intro i v hi hle hor;have hil:i<way.length:=by omega
      have hov:ovB p way t.2.1 (zt t x) i=true:=by
        unfold ovB;have h5:=h4 i hle (by omega);rw [hge i hil] at h5;rw [decide_eq_true (by omega)];have h6:i=0\/zbc p way i<zt t x:=by
          rcases hor with rfl | h
          · by_cases e:i=0
            · exact .inl e
            · right;have h7:=h3 (i-1) (by omega);rw [hge (i-1) (by omega),show i-1+1=i by omega] at h7;omega
          · exact .inr h
        simp only [Bool.true_and,Bool.or_eq_true,decide_eq_true_eq];omega
      rw [znt,if_pos hov];by_cases hc:zbc p way (i+1)>=zt t x
      · rw [zme k (i+1) _ (λj h5 h6=>by
          have h7:=ztR hp hw ht (i:=i+1) (j:=j) h5 (by omega);unfold ovB;rw [decide_eq_false (show ¬ zbc p way j<zt t x by omega),decide_eq_false (show ¬ j=0 by omega)];simp)]
        refine Lp.done ?_;simp only [zM (show i<(zgf p way).length by omega),cond_true];rw [zy 0 (by omega),Zs,zy 0 (by omega),Zs,hge i hil,hgl i hil,decide_eq_true hc,cond_true]
      · refine Lp.step ?_ (ih (i+1) _ (by omega) (by omega) (.inr (by omega)));simp only [zM (show i<(zgf p way).length by omega),cond_true];rw [zy 0 (by omega),Zs,zy 0 (by omega),Zs,hge i hil,hgl i hil,decide_eq_false hc,cond_false,zG (by omega)]
  have hL:=key (way.length-i0) i0 t.2.2.1 (by omega) (Nat.le_refl _) (.inl rfl);have hR:znt (ovB p way t.2.1 (zt t x)) (zkG p way) (way.length-i0) i0 t.2.2.1=zmo p way t (zt t x):=by
    unfold zmo;have hk:way.length=i0+(way.length-i0):=by omega
    rw [hk,zjw,zme i0 0 _ (λj _ h6=>by
      have h7:=h3 j (by omega);rw [hge j (by omega)] at h7;unfold ovB;rw [decide_eq_false (by omega)];rfl),Nat.zero_add,← hk]
  rw [hR] at hL;have hB:=hL.big (by simp only [big]; omega);exact congrArg (λo=>Zb o λt14=>some t14) hB
theorem zgg {stop:Int} {f:Int} (hf:0<=f/\f<=4000000000000000000):zaX (p,way,t,st,stop,()) f=some (ze9 p way f):=by
  have hn:=hw.n;unfold zaX;have key:∀ (k i:Nat),i+k+1=way.length ->
      Lp (λs30:Int×Int=>
cond (decide (s30.2<(zl way))) (Zb (idx way s30.2) λx35=>
Zb (zaW p x35.1) λy36=>
cond (decide (f<(w64 (s30.1+y36)))) (Zb (idx way s30.2) λx40=>
cond (x40.2.1) (Zb (idx way s30.2) λx44=>
Zb (idx p.2.1 x44.1) λx45=>
some (.inr (.inr (w64 (0-x45.2.2.2.2.1))))) (Zb (idx way s30.2) λx48=>
Zb (idx p.2.1 x48.1) λx49=>
some (.inr (.inr x49.2.2.2.2.1)))) (cond (s30.2==(w64 ((zl way)-1))) (Zb (idx way s30.2) λx51=>
cond (x51.2.1) (Zb (idx way s30.2) λx55=>
Zb (idx p.2.1 x55.1) λx56=>
some (.inr (.inr (w64 (0-x56.2.2.2.2.1))))) (Zb (idx way s30.2) λx59=>
Zb (idx p.2.1 x59.1) λx60=>
some (.inr (.inr x60.2.2.2.2.1)))) (some (.inl ((w64 (s30.1+y36)),(w64 (s30.2+1))))))) (some (.inr (.inl ())))) k (zbc p way i,(i:Int)) (.inr (zg7 p way (ixF (λi=>decide (f<zbc p way (i+1))) k i)):Unit⊕Int):=by
    intro k;induction k with
    | zero=>
      intro i hi;have hil:i<way.length:=by omega
      obtain ⟨_,hs,hr⟩:=zmd hp hw hil;refine Lp.done ?_;simp only [zM hil,cond_true];have hlast:((i:Int)==w64 (zl way-1))=true:=by
        rw [zx,zk (by omega) (by omega)]; simp; omega
      rw [zy M0 hil,Zs,zkr hp (hw.m i hil),Zs];simp only [Zs,hr,hlast,cond_true];have hv:(cond (way.getD i M0).2.1 (some (Sum.inr (Sum.inr (w64 (0-(zhy p way i).2.2.2.2.1)))):Option ((Int×Int)⊕(Unit⊕Int))) (some (Sum.inr (Sum.inr (zhy p way i).2.2.2.2.1))))=some (Sum.inr (Sum.inr (zg7 p way i))):=by
        unfold zg7 at *
        cases h:(way.getD i M0).2.1 with
        | true=>
          rw [h] at hs;simp only [if_true] at hs;simp only [cond_true,if_true];rw [zk (by omega) (by omega),Int.zero_sub]
        | false=>rfl
      rw [hv];cases decide (f<w64 (zbc p way i+zje p (way.getD i M0).1))<;>rfl
    | succ k ih=>
      intro i hi;have hil:i<way.length:=by omega
      obtain ⟨_,hs,hr⟩:=zmd hp hw hil;have hb:=zhn hp hw (i:=i) (by omega);have hb1:=zhn hp hw (i:=i+1) (by omega);have hsx:=zhm p way i;have hml:mvl p way i=zje p (way.getD i M0).1:=rfl;have hlast:((i:Int)==w64 (zl way-1))=false:=by
        rw [zx,zk (by omega) (by omega)]; simp; omega
      have hwe:w64 (zbc p way i+zje p (way.getD i M0).1)=zbc p way (i+1):=by
        rw [← hml,← hsx,zk (by omega) (by omega)]
      unfold ixF;by_cases hc:f<zbc p way (i+1)
      · rw [if_pos (decide_eq_true hc)];refine Lp.done ?_;simp only [zM hil,cond_true];rw [zy M0 hil,Zs,zkr hp (hw.m i hil),Zs];simp only [Zs,hr,hwe,decide_eq_true hc,cond_true];unfold zg7 at *
        cases h:(way.getD i M0).2.1 with
        | true=>
          rw [h] at hs;simp only [if_true] at hs;simp only [cond_true,if_true];rw [zk (by omega) (by omega),Int.zero_sub]
        | false=>rfl
      · rw [if_neg (by rw [decide_eq_true_eq]; exact hc)];refine Lp.step ?_ (ih (i+1) (by omega));simp only [zM hil,cond_true];rw [zy M0 hil,Zs,zkr hp (hw.m i hil),Zs];simp only [hlast,hwe,decide_eq_false hc,cond_false,zG (show i<9223372036854775807 by omega)]
  have hL:=(key (way.length-1) 0 (by omega)).big (by simp only [big]; omega);have h0:zbc p way 0=0:=rfl;rw [h0,show ((0:Nat):Int)=0 from rfl] at hL;exact congrArg (λo=>Zb o λt61:Unit⊕Int=>alt (λ_=>some 0) (λb64=>some b64) t61) hL
end
end Go.Ai.Sx
/- Motion: the reference's limit over the parts that a train covers. -/
namespace Go.Ai.Sx
open Option renaming bind->Zb,bind_some->Zs
section
variable {p:Plan} {way:List zR} {t:Train} {st:Int} {stops:List Int} {x:zb} (hp:zi6 p) (hw:zhQ p way) (ht:zkz t)
include hp hw ht
def zop (p:Plan) (way:List zR) (t:Train) (f:Int) (k:Nat) (C:List Cover):Prop:=C.length<=k/\(∀ c∈C,0<=c.1/\c.1<(p.2.1.length:Int))/\∀ b:Int,C.foldl (λb c=>min b (rl0 p c.1).2.2.2.1) b=znt (ovB p way t.2.1 f) (zkG p way) k 0 b
omit hp hw ht in
theorem ztT {f:Int} {k:Nat} {C:List Cover} (h:zop p way t f k C) (hg:ovB p way t.2.1 f k=false):zop p way t f (k+1) C:=by
 obtain ⟨h1,h2,h3⟩:=h;refine ⟨by omega,h2,λb=>?_⟩;rw [h3,zjw _ _ 1 k 0,znt,znt,Nat.zero_add,hg];rfl
omit hp ht in
theorem zrQ {f:Int} {k:Nat} {C:List Cover} (h:zop p way t f k C) (hk:k<way.length) (hg:ovB p way t.2.1 f k=true) (a b:Int):zop p way t f (k+1) (C++[((way.getD k M0).1,a,b,())]):=by
 obtain ⟨h1,h2,h3⟩:=h;refine ⟨by simp; omega,λc hc=>?_,λb=>?_⟩
 . rw [List.mem_append,List.mem_singleton] at hc;rcases hc with hc | rfl
   . exact h2 c hc
   . exact hw.m k hk
 rw [List.foldl_append,h3,zjw _ _ 1 k 0,znt,znt,Nat.zero_add,if_pos hg];rfl
theorem zrR {f:Int} (hf:1<=f/\f<=4000000000000000000):∃ C,zdG p way f t.2.1=some C/\zop p way t f way.length C:=by
  have hn:=hw.n;have hl:=ht.len;unfold zdG;have hT:=Tot.iter (σ:=(List Cover×Int×Int)) (τ:=List Cover) (f:=λs15=>
cond (decide (s15.2.2<(zl way))) (Zb (idx way s15.2.2) λx20=>
Zb (zaW p x20.1) λy21=>
cond (decide ((w64 ((max (w64 (f-t.2.1)) s15.2.1)-s15.2.1))>=(w64 ((min f (w64 (s15.2.1+y21)))-s15.2.1)))) (some (.inl (s15.1,(w64 (s15.2.1+y21)),(w64 (s15.2.2+1))))) (Zb (idx way s15.2.2) λx23=>
cond (x23.2.1) (Zb (idx way s15.2.2) λx25=>
Zb (zcL 24 s15.1 ([((x25.1,(w64 (y21-(w64 ((min f (w64 (s15.2.1+y21)))-s15.2.1)))),(w64 (y21-(w64 ((max (w64 (f-t.2.1)) s15.2.1)-s15.2.1)))),()):Cover)])) λx26=>
some (.inl (x26,(w64 (s15.2.1+y21)),(w64 (s15.2.2+1))))) (Zb (idx way s15.2.2) λx28=>
Zb (zcL 24 s15.1 ([((x28.1,(w64 ((max (w64 (f-t.2.1)) s15.2.1)-s15.2.1)),(w64 ((min f (w64 (s15.2.1+y21)))-s15.2.1)),()):Cover)])) λx29=>
some (.inl (x29,(w64 (s15.2.1+y21)),(w64 (s15.2.2+1))))))) (some (.inr s15.1)))
    (λs=>∃ (i:Nat) (C:List Cover),s=(C,zbc p way i,(i:Int))/\i<=way.length/\zop p way t f i C) (λC=>zop p way t f way.length C) (λs=>way.length-s.2.2.toNat) (n:=big) (s:=([],0,0)) ⟨0,[],rfl,by omega,by simp,by simp,λb=>rfl⟩ (by simp only [big]; omega) (by
      rintro s ⟨i,C,rfl,hi,hC⟩
      simp only [];by_cases hil:i<way.length
      · have hb:=zhn hp hw (i:=i) (by omega);have hb1:=zhn hp hw (i:=i+1) (by omega);have hsx:=zhm p way i;have hml:mvl p way i=zje p (way.getD i M0).1:=rfl;have hmb:=zrO hp hw hil;have hwe:w64 (zbc p way i+zje p (way.getD i M0).1)=zbc p way (i+1):=by
          rw [← hml,← hsx,zk (by omega) (by omega)]
        rw [zM hil,cond_true,zy M0 hil,Zs,zkr hp (hw.m i hil),Zs,hwe];rw [zk (n:=f-t.2.1) (by omega) (by omega),zk (n:=max (f-t.2.1) (zbc p way i)-zbc p way i) (by omega) (by omega),zk (n:=min f (zbc p way (i+1))-zbc p way i) (by omega) (by omega)];have hov:ovB p way t.2.1 f i=!decide (max (f-t.2.1) (zbc p way i)-zbc p way i>=min f (zbc p way (i+1))-zbc p way i):=by
          unfold ovB;have h0:i=0->zbc p way i=0:=λh=>by subst h; rfl
          by_cases e:max (f-t.2.1) (zbc p way i)-zbc p way i>=min f (zbc p way (i+1))-zbc p way i
          · rw [decide_eq_true e];by_cases e1:f-t.2.1<zbc p way (i+1)
            · rw [decide_eq_false (show ¬ zbc p way i<f by omega),decide_eq_false (show ¬ i=0 by omega)]; simp
            · rw [decide_eq_false e1]; rfl
          · rw [decide_eq_false e,decide_eq_true (show f-t.2.1<zbc p way (i+1) by omega),decide_eq_true (show zbc p way i<f by omega)]; rfl
        by_cases e:max (f-t.2.1) (zbc p way i)-zbc p way i>=min f (zbc p way (i+1))-zbc p way i
        · rw [decide_eq_true e] at hov ⊢;rw [cond_true,zG (by omega)];exact Tot.some ⟨⟨i+1,C,rfl,by omega,ztT hC hov⟩,by simp only [Int.toNat_natCast]; omega⟩
        · rw [decide_eq_false e] at hov ⊢;have hcl:=hC.1;rw [cond_false,Zs];have happ:∀ a b:Int,zcL 24 C [((way.getD i M0).1,a,b,())]=some (C++[((way.getD i M0).1,a,b,())]):=λa b=>za8 (by simp; omega);simp only [Zs,happ,zG (show i<9223372036854775807 by omega)];cases (way.getD i M0).2.1 with
          | true=>exact Tot.some ⟨⟨i+1,_,rfl,by omega,zrQ hw hC hil hov _ _⟩,by simp only [Int.toNat_natCast]; omega⟩
          | false=>exact Tot.some ⟨⟨i+1,_,rfl,by omega,zrQ hw hC hil hov _ _⟩,by simp only [Int.toNat_natCast]; omega⟩
      · have:i=way.length:=by omega
        subst this;rw [zV,cond_false];exact Tot.some hC)
  obtain ⟨C,h1,h2⟩:=hT;exact ⟨C,by rw [h1]; rfl,h2⟩
theorem zfG {f:Int} (hf:1<=f/\f<=4000000000000000000):zdv p way t f=some (zmo p way t f):=by
  have hn:=hw.n;obtain ⟨C,h1,h2,h3,h4⟩:=zrR hp hw ht hf;unfold zdv;rw [h1,Zs];have hL:=zcA (f:=λs8:Int×Int=>
cond (decide (s8.2<(zl C))) (Zb (idx C s8.2) λx13=>
Zb (idx p.2.1 x13.1) λx14=>
some (.inl ((min s8.1 x14.2.2.2.1),(w64 (s8.2+1))))) (some (.inr s8.1))) C (λi b=>(b,(i:Int))) (λ_ b c=>(.inl (min b (rl0 p c.1).2.2.2.1):Int⊕Int)) (λb=>b) (λ_ _=>True) t.2.2.1 (s0:=(t.2.2.1,0)) rfl (by omega) trivial (λi h b _=>by
      refine ⟨?_,λ_ _=>trivial⟩;simp only [];rw [zM h,cond_true,zf0,List.getElem?_eq_getElem h,Zs];have hc:=h3 C[i] (List.getElem_mem h);have hr:idx p.2.1 C[i].1=some (rl0 p C[i].1):=zdL hc.1 hc.2;rw [hr,Zs,zG (by omega)]) (λb _=>by simp only [zV,cond_false])
  rw [hL,zeC,h4];rfl
end
end Go.Ai.Sx
/- Motion: what is safe. -/
namespace Go.Ai.Sx
open Option renaming bind->Zb,bind_some->Zs
section
variable (p:Plan) (way:List zR) (t:Train) (st stop:Int)
def slS (y:zb):Int:=ze9 p way (zt t y)
def zgh (x:zb):Bool:=decide (zt t x<=stop)&&decide (x.1/t.1<=zmo p way t (zt t x))
def nxS (x:zb):za2×Bool:=zem t st x (-4) (slS p way t x)
def zpX:Nat->zb->Bool
 | 0,x=>x.1==0
 | n+1,x=>x.1==0||((nxS p way t st x).2&&(zgh p way t stop (nxS p way t st x).1.1&&zpX n (nxS p way t st x).1.1))
def zmf (x:zb):Bool:=zgh p way t stop x&&zpX p way t st stop 36000 x
end
section
variable {p:Plan} {way:List zR} {t:Train} {st:Int} {stops:List Int} {x:zb} (hp:zi6 p) (hw:zhQ p way) (ht:zkz t) (hst:0<=st/\st<t.2.2.2.2.2.2.2.2.2.1.length)
include hp hw ht hst
theorem zrS (hx:zo0 t x) (stop:Int):zbp (zil p way t st stops) x stop=some (zgh p way t stop x):=by
 have hf:zoh t st 0 0:=⟨hst,by omega,by omega⟩;unfold zbp;show (Zb (Zb (zU (t,st,()) x) λy10=>cond (decide (y10<=stop)) (Zb (zba (t,st,()) x) _) _) _)=_;rw [(zg4 ht hx st).1,Zs,(ziM ht hf hx).1,Zs,ztS hp hw ht hx,Zs];unfold zgh zt;cases decide (x.2.1/(10*t.1)<=stop)<;>rfl
theorem zwg (hx:0<=x.1/\x.1<=25000*t.1) (hwx:0<=x.2.1/\x.2.1<=1000000000000000000) (stop:Int):zbO (zil p way t st stops) x stop=some (zmf p way t st stop x):=by
  unfold zbO;rw [zrS hp hw ht hst ⟨hx,hwx.1,by omega⟩ stop,Zs];unfold zmf;cases hfi:zgh p way t stop x with
  | false=>rfl
  | true=>
    have hm:zbK (zil p way t st stops).1 x (λy=>zaJ (zil p way t st stops) y)=some (x,(t,st,()),λy=>zaJ (zil p way t st stops) y):=rfl;simp only [Bool.not_true,cond_false,hm,Zs,Bool.true_and];have hS:=zoi (σ:=Int×Int) (τ:=Int×Int) (t:=t) (st:=st) (sl:=slS p way t) (f:=λy=>zaJ (zil p way t st stops) y)
      (step:=λs16 x9=>Zb (zbp (zil p way t st stops) x9 stop) λy19=>
cond (!y19) (some (.inr (s16.1,s16.2))) (some (.inl (x9.1,x9.2.1))))
      (g:=λs y=>if zgh p way t stop y then .inl (y.1,y.2.1) else .inr (s.1,s.2)) (W:=4000000000000000000) ht hst (by omega)
      (λy h1 h2=>⟨ztQ hp hw ht ⟨h1,h2⟩,zho hp hw ht ⟨h1,h2⟩ _⟩)
      (λs y h1 h2=>by
        rw [zrS hp hw ht hst ⟨h1,h2⟩ stop,Zs];cases zgh p way t stop y<;>rfl) (x.1,x.2.1) x hx ⟨hwx.1,by omega⟩
    obtain ⟨z,hz⟩:=hS;rw [hz,Zs];have key:∀ (n:Nat) (x:zb),(alt (λb23:Int×Int=>some (b23.1==0)) (λ_:Int×Int=>some false) (zl0 (λ(s:Int×Int) (y:zb)=>if zgh p way t stop y then .inl (y.1,y.2.1) else .inr (s.1,s.2)) (x.1,x.2.1) (brk t st (slS p way t) n x)):Option Bool)=some (zpX p way t st stop n x):=by
      intro n;induction n with
      | zero=>intro x; rfl
      | succ n ih=>
        intro x;unfold brk zpX;by_cases h0:x.1=0
        · rw [if_pos h0,show (x.1==0)=true by simpa using h0];simp only [zl0,zbC,h0]; rfl
        · rw [if_neg h0,show (x.1==0)=false by simpa using h0];show alt _ _ (zl0 _ _ (if (nxS p way t st x).2=true then (nxS p way t st x).1.1::brk t st (slS p way t) n (nxS p way t st x).1.1 else []))=_;cases hok:(nxS p way t st x).2 with
          | false=>
            simp only [Bool.false_eq_true,if_false,zl0,zbC,Bool.false_and,Bool.or_false];rw [show (x.1==0)=false by simpa using h0]
          | true=>
            simp only [if_true,zl0,Bool.true_and,Bool.false_or];cases hfy:zgh p way t stop (nxS p way t st x).1.1 with
            | false=>rfl
            | true=>
              simp only [if_true,Bool.true_and];exact ih _
    exact key 36000 x
theorem ztU (hx:0<=x.1/\x.1<=25000*t.1) (hwx:10*t.1<=x.2.1/\x.2.1<=1000000000000000000) (stop:Int):zdZ (p,way,t,st,stop,()) x=some (zmf p way t st stop x):=by
  have hm:=ht.m;unfold zdZ;have key:∀ (n k:Nat) (v w:Int),k+n=36000->0<=v/\v<=25000*t.1->10*t.1<=w/\w+2000000000*n<=2000000000000000000->∃ T:Bool×Int×Int,T.1=(zgh p way t stop (v,w,())&&zpX p way t st stop n (v,w,()))/\Lp (λs54:Int×Int×Int=>
Zb (zK t (s54.2.1,s54.2.2,())) λy66=>
cond (decide (y66>stop)) (some (.inr (false,s54.2.1,s54.2.2))) (Zb (zdJ .i64 s54.2.1 t.1) λx69=>
Zb (zK t (s54.2.1,s54.2.2,())) λy70=>
Zb (zdv p way t y70) λy71=>
cond (decide (x69>y71)) (some (.inr (false,s54.2.1,s54.2.2))) (cond (s54.2.1==0) (some (.inr (true,s54.2.1,s54.2.2))) (cond (s54.1==36000) (some (.inr (false,s54.2.1,s54.2.2))) (Zb (zK t (s54.2.1,s54.2.2,())) λy78=>
Zb (zaX (p,way,t,st,stop,()) y78) λy79=>
Zb (zaE t (s54.2.1,s54.2.2,()) (-4) y79 st) λy80=>
cond (!y80.2.2) (some (.inr (false,y80.1.1,y80.1.2.1))) (some (.inl ((w64 (s54.1+1)),y80.1.1,y80.1.2.1)))))))) n ((k:Int),v,w) T:=by
    intro n;induction n with
    | zero=>
      intro k v w hk hv hww;have:k=36000:=by omega
      subst this;have hso:zo0 t (v,w,()):=⟨hv,⟨by show 0<=w; omega,by show w<=_; omega⟩⟩;have hf0:zoh t st 0 0:=⟨hst,by omega,by omega⟩;have hpl:1<=zt t (v,w,())/\zt t (v,w,())<=4000000000000000000:=by
        refine ⟨?_,(zns hp hw ht hso).2⟩;show 1<=w/(10*t.1);exact (Int.le_ediv_iff_mul_le (by omega)).2 (by omega)
      have e0:zK t (v,w,())=some (zt t (v,w,())):=(zg4 ht hso st).2;have e1:zdJ .i64 v t.1=some (v/t.1):=(ziM ht hf0 hso).2;by_cases c1:zt t (v,w,())<=stop
      · by_cases c2:v/t.1<=zmo p way t (zt t (v,w,()))
        · have hfb:zgh p way t stop (v,w,())=true:=by
            unfold zgh;rw [decide_eq_true c1,decide_eq_true (show (v,w,()).1/t.1<=zmo p way t (zt t (v,w,())) from c2)]; rfl
          rw [hfb];by_cases h0:v=0
          · subst h0;refine ⟨(true,0,w),rfl,Lp.done ?_⟩;simp only [e0,Zs,e1,zfG hp hw ht hpl,decide_eq_false (show ¬ zt t (0,w,())>stop by omega),decide_eq_false (show ¬ (0:Int)/t.1>zmo p way t (zt t (0,w,())) by omega),cond_false];rfl
          · have hb:(v==0)=false:=by simpa using h0
            refine ⟨(false,v,w), ?_,Lp.done ?_⟩
            · show false=(true&&(v==0)); rw [hb]; rfl
            simp only [e0,Zs,e1,zfG hp hw ht hpl,decide_eq_false (show ¬ zt t (v,w,())>stop by omega),decide_eq_false (show ¬ v/t.1>zmo p way t (zt t (v,w,())) by omega),cond_false,hb];rfl
        · refine ⟨(false,v,w), ?_,Lp.done ?_⟩
          · unfold zgh;rw [decide_eq_false (show ¬ (v,w,()).1/t.1<=zmo p way t (zt t (v,w,())) from c2),Bool.and_false]; rfl
          simp only [e0,Zs,e1,zfG hp hw ht hpl,decide_eq_false (show ¬ zt t (v,w,())>stop by omega),decide_eq_true (show v/t.1>zmo p way t (zt t (v,w,())) by omega),cond_false,cond_true]
      · refine ⟨(false,v,w), ?_,Lp.done ?_⟩
        · unfold zgh;rw [decide_eq_false c1]; rfl
        simp only [e0,Zs,decide_eq_true (show zt t (v,w,())>stop by omega),cond_true]
    | succ n ih=>
      intro k v w hk hv hww;have hk0:((k:Int)==36000)=false:=by simp; omega
      have hso:zo0 t (v,w,()):=⟨hv,⟨by show 0<=w; omega,by show w<=_; omega⟩⟩;have hf0:zoh t st 0 0:=⟨hst,by omega,by omega⟩;have hpl:1<=zt t (v,w,())/\zt t (v,w,())<=4000000000000000000:=by
        refine ⟨?_,(zns hp hw ht hso).2⟩;show 1<=w/(10*t.1);exact (Int.le_ediv_iff_mul_le (by omega)).2 (by omega)
      have e0:zK t (v,w,())=some (zt t (v,w,())):=(zg4 ht hso st).2;have e1:zdJ .i64 v t.1=some (v/t.1):=(ziM ht hf0 hso).2;by_cases c1:zt t (v,w,())<=stop
      · by_cases c2:v/t.1<=zmo p way t (zt t (v,w,()))
        · have hfb:zgh p way t stop (v,w,())=true:=by
            unfold zgh;rw [decide_eq_true c1,decide_eq_true (show (v,w,()).1/t.1<=zmo p way t (zt t (v,w,())) from c2)]; rfl
          rw [hfb];unfold zpX;by_cases h0:v=0
          · subst h0;refine ⟨(true,0,w),rfl,Lp.done ?_⟩;simp only [e0,Zs,e1,zfG hp hw ht hpl,decide_eq_false (show ¬ zt t (0,w,())>stop by omega),decide_eq_false (show ¬ (0:Int)/t.1>zmo p way t (zt t (0,w,())) by omega),cond_false];rfl
          · have hb:(v==0)=false:=by simpa using h0
            have hsl:=zho hp hw ht hso (zt t (v,w,()));have hfin:zoh t st (-4) (ze9 p way (zt t (v,w,()))):=⟨hst,by omega,hsl⟩;have hstep:zaE t (v,w,()) (-4) (ze9 p way (zt t (v,w,()))) st=some ((nxS p way t st (v,w,())).1.1,(nxS p way t st (v,w,())).1.2.1,(nxS p way t st (v,w,())).2):=zl1 ht hfin hso;have hbx:(((v,w,()):zb).1==0)=false:=hb;rw [hbx];cases hok:(nxS p way t st (v,w,())).2 with
            | false=>
              refine ⟨(false,(nxS p way t st (v,w,())).1.1.1,(nxS p way t st (v,w,())).1.1.2.1),rfl,Lp.done ?_⟩;simp only [e0,Zs,e1,zfG hp hw ht hpl,decide_eq_false (show ¬ zt t (v,w,())>stop by omega),decide_eq_false (show ¬ v/t.1>zmo p way t (zt t (v,w,())) by omega),cond_false,hb,hk0,zgg hp hw ht (show 0<=zt t (v,w,())/\zt t (v,w,())<=4000000000000000000 by omega),hstep,hok,Bool.not_false,cond_true]
            | true=>
              obtain ⟨n1,n2⟩:=zg5 ht hfin hv ⟨by show 0<=w; omega,by show w<=_; omega⟩ hok;have n1':0<=(nxS p way t st (v,w,())).1.1.1/\(nxS p way t st (v,w,())).1.1.1<=25000*t.1:=n1;have n2':(nxS p way t st (v,w,())).1.1.2.1=w+(nxS p way t st (v,w,())).1.1.1:=n2;obtain ⟨T,h1,h2⟩:=ih (k+1) (nxS p way t st (v,w,())).1.1.1 (nxS p way t st (v,w,())).1.1.2.1 (by omega) n1' (by omega);refine ⟨T, ?_,Lp.step ?_ h2⟩
              · rw [h1]; rfl
              simp only [e0,Zs,e1,zfG hp hw ht hpl,decide_eq_false (show ¬ zt t (v,w,())>stop by omega),decide_eq_false (show ¬ v/t.1>zmo p way t (zt t (v,w,())) by omega),cond_false,hb,hk0,zgg hp hw ht (show 0<=zt t (v,w,())/\zt t (v,w,())<=4000000000000000000 by omega),hstep,hok,Bool.not_true];rw [zG (by omega)]
        · refine ⟨(false,v,w), ?_,Lp.done ?_⟩
          · unfold zgh;rw [decide_eq_false (show ¬ (v,w,()).1/t.1<=zmo p way t (zt t (v,w,())) from c2),Bool.and_false]; rfl
          simp only [e0,Zs,e1,zfG hp hw ht hpl,decide_eq_false (show ¬ zt t (v,w,())>stop by omega),decide_eq_true (show v/t.1>zmo p way t (zt t (v,w,())) by omega),cond_false,cond_true]
      · refine ⟨(false,v,w), ?_,Lp.done ?_⟩
        · unfold zgh;rw [decide_eq_false c1]; rfl
        simp only [e0,Zs,decide_eq_true (show zt t (v,w,())>stop by omega),cond_true]
  obtain ⟨T,h1,h2⟩:=key 36000 0 x.1 x.2.1 (by omega) hx (by omega);rw [show ((0:Nat):Int)=0 from rfl] at h2;have hB:=h2.big (by simp only [big]; omega);have:=congrArg (λo=>Zb o λt82:Bool×Int×Int=>some t82.1) hB;exact this.trans (congrArg some h1)
end
end Go.Ai.Sx
/- Motion: the first safe demand. -/
namespace Go.Ai.Sx
open Option renaming bind->Zb,bind_some->Zs
def zsf (ok:Int->Bool):Nat->Int->Option Int
 | 0,_=>none
 | n+1,d=>if ok d then some d else zsf ok n (d-1)
theorem zkt {ok:Int->Bool}:∀ {n:Nat} {d e:Int},zsf ok n d=some e->ok e=true/\d-n<e/\e<=d
 | 0,_,_,h=>by cases h
 | n+1,d,e,h=>by
  rw [zsf] at h;split at h
  . rename_i hk;cases h;exact ⟨hk,by omega,by omega⟩
  . obtain ⟨h1,h2,h3⟩:=zkt h;exact ⟨h1,by omega,by omega⟩
section
variable (p:Plan) (way:List zR) (t:Train) (st stop:Int)
def zcP (x:zb) (d:Int):za2×Bool:=zem t st x d (slS p way t x)
def okD (x:zb) (d:Int):Bool:=(zcP p way t st x d).2&&zmf p way t st stop (zcP p way t st x d).1.1
def znD (x:zb):Option Int:=zsf (okD p way t st stop x) 9 4
end
def zyR (s:za2):Bool×Int×Int×Int×Int×Int×Int×Int×Int×Int×Int:=(true,s.1.1,s.1.2.1,s.2.1.1,s.2.1.2.1,s.2.1.2.2.1,s.2.1.2.2.2.1,s.2.1.2.2.2.2.1,s.2.1.2.2.2.2.2.1,s.2.2.1,s.2.2.2.1)
section
variable {p:Plan} {way:List zR} {t:Train} {st:Int} {stops:List Int} {x:zb} (hp:zi6 p) (hw:zhQ p way) (ht:zkz t) (hst:0<=st/\st<t.2.2.2.2.2.2.2.2.2.1.length)
include hp hw ht hst
theorem zku (hx:0<=x.1/\x.1<=25000*t.1) (hwx:0<=x.2.1/\x.2.1<=500000000000000000) (stop:Int):zaO (zil p way t st stops) x stop=some (match znD p way t st stop x with | some d=>((zcP p way t st x d).1,true) | none=>(((0,0,()),(0,0,0,0,0,0,()),0,0,()),false)):=by
  have hm:=ht.m;have hso:zo0 t x:=⟨hx,⟨hwx.1,by omega⟩⟩;have hsl:=zho hp hw ht hso (zt t x);unfold zaO;rw [ztQ hp hw ht hso,Zs];have key:∀ (n k:Nat),k+n=9->Lp (λs26:Bool×Int×Int×Int×Int×Int×Int×Int×Int×Int×Int×Int=>
cond (decide (s26.2.1<9)) (Zb (zax (zil p way t st stops).1 x (w64 (4-s26.2.1)) (ze9 p way (zt t x))) λy31=>
cond (y31.2) (Zb (zbO (zil p way t st stops) y31.1.1 stop) λy36=>
cond (y36) (some (.inr ((true,y31.1.1.1,y31.1.1.2.1,y31.1.2.1.1,y31.1.2.1.2.1,y31.1.2.1.2.2.1,y31.1.2.1.2.2.2.1,y31.1.2.1.2.2.2.2.1,y31.1.2.1.2.2.2.2.2.1,y31.1.2.2.1,y31.1.2.2.2.1):Bool×Int×Int×Int×Int×Int×Int×Int×Int×Int×Int))) (some (.inl (s26.1,(w64 (s26.2.1+1)),s26.2.2.1,s26.2.2.2.1,s26.2.2.2.2.1,s26.2.2.2.2.2.1,s26.2.2.2.2.2.2.1,s26.2.2.2.2.2.2.2.1,s26.2.2.2.2.2.2.2.2.1,s26.2.2.2.2.2.2.2.2.2.1,s26.2.2.2.2.2.2.2.2.2.2.1,s26.2.2.2.2.2.2.2.2.2.2.2)))) (some (.inl (s26.1,(w64 (s26.2.1+1)),s26.2.2.1,s26.2.2.2.1,s26.2.2.2.2.1,s26.2.2.2.2.2.1,s26.2.2.2.2.2.2.1,s26.2.2.2.2.2.2.2.1,s26.2.2.2.2.2.2.2.2.1,s26.2.2.2.2.2.2.2.2.2.1,s26.2.2.2.2.2.2.2.2.2.2.1,s26.2.2.2.2.2.2.2.2.2.2.2)))) (some (.inr (s26.1,s26.2.2.1,s26.2.2.2.1,s26.2.2.2.2.1,s26.2.2.2.2.2.1,s26.2.2.2.2.2.2.1,s26.2.2.2.2.2.2.2.1,s26.2.2.2.2.2.2.2.2.1,s26.2.2.2.2.2.2.2.2.2.1,s26.2.2.2.2.2.2.2.2.2.2.1,s26.2.2.2.2.2.2.2.2.2.2.2)))) n (false,(k:Int),0,0,0,0,0,0,0,0,0,0) (match zsf (okD p way t st stop x) n (4-k) with | some d=>zyR (zcP p way t st x d).1 | none=>(false,0,0,0,0,0,0,0,0,0,0)):=by
    intro n;induction n with
    | zero=>
      intro k hk;have:k=9:=by omega
      subst this;exact Lp.done rfl
    | succ n ih=>
      intro k hk;have hfin:zoh t st (4-k) (ze9 p way (zt t x)):=⟨hst,by omega,hsl⟩;have hstep:zax (zil p way t st stops).1 x (4-(k:Int)) (ze9 p way (zt t x))=some (zcP p way t st x (4-k)):=zo1 ht hfin hso;have hnext:Lp _ _ _ _:=ih (k+1) (by omega);rw [show (4-((k+1:Nat):Int))=4-(k:Int)-1 by omega] at hnext;have hok:okD p way t st stop x (4-k)=((zcP p way t st x (4-k)).2&&zmf p way t st stop (zcP p way t st x (4-k)).1.1):=rfl;rw [zsf,hok];cases h1:(zcP p way t st x (4-k)).2 with
      | false=>
        simp only [Bool.false_and,Bool.false_eq_true,if_false];refine Lp.step ?_ hnext;simp only [decide_eq_true (show (k:Int)<9 by omega),cond_true,zk (n:=4-(k:Int)) (by omega) (by omega),hstep,Zs,h1,cond_false];rw [zG (by omega)]
      | true=>
        obtain ⟨n1,n2⟩:=zg5 ht hfin hx hso.w h1;have n1':0<=(zcP p way t st x (4-k)).1.1.1/\(zcP p way t st x (4-k)).1.1.1<=25000*t.1:=n1;have n2':(zcP p way t st x (4-k)).1.1.2.1=x.2.1+(zcP p way t st x (4-k)).1.1.1:=n2;have hsafe:=zwg (stops:=stops) hp hw ht hst n1' (by omega) stop;cases h2:zmf p way t st stop (zcP p way t st x (4-k)).1.1 with
        | false=>
          simp only [Bool.and_false,Bool.false_eq_true,if_false];refine Lp.step ?_ hnext;simp only [decide_eq_true (show (k:Int)<9 by omega),cond_true,zk (n:=4-(k:Int)) (by omega) (by omega),hstep,Zs,h1,hsafe,h2,cond_false];rw [zG (by omega)]
        | true=>
          simp only [Bool.and_true,if_true];refine Lp.done ?_;simp only [decide_eq_true (show (k:Int)<9 by omega),cond_true,zk (n:=4-(k:Int)) (by omega) (by omega),hstep,Zs,h1,hsafe,h2];rfl
  have hB:=(key 9 0 rfl).big (by simp only [big]; omega);rw [show ((0:Nat):Int)=0 from rfl] at hB;refine (congrArg (λo=>Zb o λt39:Bool×Int×Int×Int×Int×Int×Int×Int×Int×Int×Int=>some ((((t39.2.1,t39.2.2.1,()),(t39.2.2.2.1,t39.2.2.2.2.1,t39.2.2.2.2.2.1,t39.2.2.2.2.2.2.1,t39.2.2.2.2.2.2.2.1,t39.2.2.2.2.2.2.2.2.1,()),t39.2.2.2.2.2.2.2.2.2.1,t39.2.2.2.2.2.2.2.2.2.2,()),t39.1):za2×Bool)) hB).trans ?_;rw [Zs];unfold znD;rw [show (4:Int)-0=4 from rfl];cases zsf (okD p way t st stop x) 9 4<;>rfl
theorem znu (hx:0<=x.1/\x.1<=25000*t.1) (hwx:10*t.1<=x.2.1/\x.2.1<=500000000000000000) (stop:Int):zca (p,way,t,st,stop,()) x=some (match znD p way t st stop x with | some d=>(d,true) | none=>(0,false)):=by
  have hm:=ht.m;have hso:zo0 t x:=⟨hx,⟨by omega,by omega⟩⟩;have hsl:=zho hp hw ht hso (zt t x);have hpl:=zns hp hw ht hso;unfold zca;have key:∀ (n:Nat) (d:Int),d+5=n->d<=4->Lp (λs18:Int=>
cond (decide (s18>=(-4))) (Zb (zK t x) λy26=>
Zb (zaX (p,way,t,st,stop,()) y26) λy27=>
Zb (zaE t x s18 y27 st) λy28=>
cond (y28.2.2) (Zb (zdZ (p,way,t,st,stop,()) y28.1) λy34=>
cond (y34) (some (.inr (.inr (s18,true)))) (some (.inl (w64 (s18-1))))) (some (.inl (w64 (s18-1))))) (some (.inr (.inl ())))) n d (match zsf (okD p way t st stop x) n d with | some e=>(.inr (e,true):Unit⊕(Int×Bool)) | none=>.inl ()):=by
    intro n;induction n with
    | zero=>
      intro d hd _;refine Lp.done ?_;rw [decide_eq_false (by omega)]; rfl
    | succ n ih=>
      intro d hd hd4;have hfin:zoh t st d (ze9 p way (zt t x)):=⟨hst,by omega,hsl⟩;have hstep:zaE t x d (ze9 p way (zt t x)) st=some ((zcP p way t st x d).1.1,(zcP p way t st x d).1.2.1,(zcP p way t st x d).2):=zl1 ht hfin hso;have e0:zK t x=some (zt t x):=(zg4 ht hso st).2;have hnext:=ih (d-1) (by omega) (by omega);have hok:okD p way t st stop x d=((zcP p way t st x d).2&&zmf p way t st stop (zcP p way t st x d).1.1):=rfl;rw [zsf,hok];cases h1:(zcP p way t st x d).2 with
      | false=>
        simp only [Bool.false_and,Bool.false_eq_true,if_false];refine Lp.step ?_ hnext;simp only [decide_eq_true (show d>=-4 by omega),cond_true,e0,Zs,zgg hp hw ht hpl,hstep,h1,cond_false,zk (n:=d-1) (by omega) (by omega)]
      | true=>
        obtain ⟨n1,n2⟩:=zg5 ht hfin hx hso.w h1;have n1':0<=(zcP p way t st x d).1.1.1/\(zcP p way t st x d).1.1.1<=25000*t.1:=n1;have n2':(zcP p way t st x d).1.1.2.1=x.2.1+(zcP p way t st x d).1.1.1:=n2;have hsafe:=ztU hp hw ht hst n1' (by omega) stop;cases h2:zmf p way t st stop (zcP p way t st x d).1.1 with
        | false=>
          simp only [Bool.and_false,Bool.false_eq_true,if_false];refine Lp.step ?_ hnext;simp only [decide_eq_true (show d>=-4 by omega),cond_true,e0,Zs,zgg hp hw ht hpl,hstep,h1,hsafe,h2,cond_false,zk (n:=d-1) (by omega) (by omega)]
        | true=>
          simp only [Bool.and_true,if_true];refine Lp.done ?_;simp only [decide_eq_true (show d>=-4 by omega),cond_true,e0,Zs,zgg hp hw ht hpl,hstep,h1,hsafe,h2]
  have hB:=(key 9 4 rfl (by omega)).big (by simp only [big]; omega);rw [hB,Zs];unfold znD;cases zsf (okD p way t st stop x) 9 4<;>rfl
end
end Go.Ai.Sx
/- Motion: one leg. -/
namespace Go.Ai.Sx
open Option renaming bind->Zb,bind_some->Zs
def zsg (p_0:zau) (p_2:Int):(Int×Int×Int×Int×Int×Int×Int×Int×Int×Int×Int×Int×Int×Int×Int×Int×Int×Int×Int×Int×Int×Int×Int×Int×Int)->Option ((Int×Int×Int×Int×Int×Int×Int×Int×Int×Int×Int×Int×Int×Int×Int×Int×Int×Int×Int×Int×Int×Int×Int×Int×Int)⊕(Bool×Int×Int×Int×Int×Int×Int×Int×Int×Int×Int×Int×Int×Int×Int×Int×Int×Int×Int×Int×Int×Int×Int×Int×Int)):=(λs77=>
Zb (zU p_0.1 (s77.2.2.2.2.2.2.2.2.2.2.2.2.2.2.1,s77.2.2.2.2.2.2.2.2.2.2.2.2.2.2.2.1,())) λy80=>
cond (s77.2.2.2.2.2.2.2.2.2.2.2.2.2.2.1==0) (Zb (zP (w64 (p_2-y80)) 0 1000) λy84=>
cond (y84) (some (.inr (true,y80,s77.2.2.2.2.2.2.2.2.2.2.2.2.2.2.1,s77.2.2.2.2.2.2.2.2.2.2.2.2.2.2.2.1,s77.2.1,y80,s77.2.2.2.1,s77.2.2.2.2.1,s77.2.2.2.2.2.1,s77.2.2.2.2.2.2.1,s77.2.2.2.2.2.2.2.1,s77.2.2.2.2.2.2.2.2.1,s77.2.2.2.2.2.2.2.2.2.1,s77.2.2.2.2.2.2.2.2.2.2.1,s77.2.1,s77.2.2.2.1,s77.2.2.2.2.1,s77.2.2.2.2.2.1,s77.2.2.2.2.2.2.1,s77.2.2.2.2.2.2.2.1,s77.2.2.2.2.2.2.2.2.1,s77.2.2.2.2.2.2.2.2.2.1,s77.2.2.2.2.2.2.2.2.2.2.1,s77.2.2.2.2.2.2.2.2.2.2.2.2.2.2.1,s77.2.2.2.2.2.2.2.2.2.2.2.2.2.2.2.1))) (cond (s77.1==36000) (some (.inr (false,s77.2.2.1,s77.2.2.2.2.2.2.2.2.2.2.2.2.2.2.1,s77.2.2.2.2.2.2.2.2.2.2.2.2.2.2.2.1,s77.2.1,s77.2.2.1,s77.2.2.2.1,s77.2.2.2.2.1,s77.2.2.2.2.2.1,s77.2.2.2.2.2.2.1,s77.2.2.2.2.2.2.2.1,s77.2.2.2.2.2.2.2.2.1,s77.2.2.2.2.2.2.2.2.2.1,s77.2.2.2.2.2.2.2.2.2.2.1,s77.2.1,s77.2.2.2.1,s77.2.2.2.2.1,s77.2.2.2.2.2.1,s77.2.2.2.2.2.2.1,s77.2.2.2.2.2.2.2.1,s77.2.2.2.2.2.2.2.2.1,s77.2.2.2.2.2.2.2.2.2.1,s77.2.2.2.2.2.2.2.2.2.2.1,s77.2.2.2.2.2.2.2.2.2.2.2.2.2.2.1,s77.2.2.2.2.2.2.2.2.2.2.2.2.2.2.2.1))) (Zb (zaO p_0 (s77.2.2.2.2.2.2.2.2.2.2.2.2.2.2.1,s77.2.2.2.2.2.2.2.2.2.2.2.2.2.2.2.1,()) p_2) λy87=>
cond (!y87.2) (some (.inr (false,s77.2.2.1,s77.2.2.2.2.2.2.2.2.2.2.2.2.2.2.1,s77.2.2.2.2.2.2.2.2.2.2.2.2.2.2.2.1,s77.2.1,s77.2.2.1,s77.2.2.2.1,s77.2.2.2.2.1,s77.2.2.2.2.2.1,s77.2.2.2.2.2.2.1,s77.2.2.2.2.2.2.2.1,s77.2.2.2.2.2.2.2.2.1,s77.2.2.2.2.2.2.2.2.2.1,s77.2.2.2.2.2.2.2.2.2.2.1,s77.2.1,s77.2.2.2.1,s77.2.2.2.2.1,s77.2.2.2.2.2.1,s77.2.2.2.2.2.2.1,s77.2.2.2.2.2.2.2.1,s77.2.2.2.2.2.2.2.2.1,s77.2.2.2.2.2.2.2.2.2.1,s77.2.2.2.2.2.2.2.2.2.2.1,s77.2.2.2.2.2.2.2.2.2.2.2.2.2.2.1,s77.2.2.2.2.2.2.2.2.2.2.2.2.2.2.2.1))) (cond (decide (y87.1.1.2.1>10000000000000000)) (some (.inr (false,s77.2.2.1,s77.2.2.2.2.2.2.2.2.2.2.2.2.2.2.1,s77.2.2.2.2.2.2.2.2.2.2.2.2.2.2.2.1,s77.2.1,s77.2.2.1,s77.2.2.2.1,s77.2.2.2.2.1,s77.2.2.2.2.2.1,s77.2.2.2.2.2.2.1,s77.2.2.2.2.2.2.2.1,s77.2.2.2.2.2.2.2.2.1,s77.2.2.2.2.2.2.2.2.2.1,s77.2.2.2.2.2.2.2.2.2.2.1,s77.2.1,s77.2.2.2.1,s77.2.2.2.2.1,s77.2.2.2.2.2.1,s77.2.2.2.2.2.2.1,s77.2.2.2.2.2.2.2.1,s77.2.2.2.2.2.2.2.2.1,s77.2.2.2.2.2.2.2.2.2.1,s77.2.2.2.2.2.2.2.2.2.2.1,s77.2.2.2.2.2.2.2.2.2.2.2.2.2.2.1,s77.2.2.2.2.2.2.2.2.2.2.2.2.2.2.2.1))) (Zb (zcH ([(s77.2.2.2.1,s77.2.2.2.2.1,s77.2.2.2.2.2.1,s77.2.2.2.2.2.2.1,s77.2.2.2.2.2.2.2.1,s77.2.2.2.2.2.2.2.2.1,()),y87.1.2.1])) λy93=>
some (.inl ((w64 (s77.1+1)),(w64 (s77.2.1+100)),s77.2.2.1,y93.1,y93.2.1,y93.2.2.1,y93.2.2.2.1,y93.2.2.2.2.1,y93.2.2.2.2.2.1,(max s77.2.2.2.2.2.2.2.2.2.1 y87.1.2.2.1),(max s77.2.2.2.2.2.2.2.2.2.2.1 y87.1.2.2.2.1),s77.2.2.2.2.2.2.2.2.2.2.2.1,s77.2.2.2.2.2.2.2.2.2.2.2.2.1,s77.2.2.2.2.2.2.2.2.2.2.2.2.2.1,y87.1.1.1,y87.1.1.2.1,s77.2.2.2.2.2.2.2.2.2.2.2.2.2.2.2.2.1,s77.2.2.2.2.2.2.2.2.2.2.2.2.2.2.2.2.2.1,s77.2.2.2.2.2.2.2.2.2.2.2.2.2.2.2.2.2.2.1,s77.2.2.2.2.2.2.2.2.2.2.2.2.2.2.2.2.2.2.2.1,s77.2.2.2.2.2.2.2.2.2.2.2.2.2.2.2.2.2.2.2.2.1,s77.2.2.2.2.2.2.2.2.2.2.2.2.2.2.2.2.2.2.2.2.2.1,s77.2.2.2.2.2.2.2.2.2.2.2.2.2.2.2.2.2.2.2.2.2.2.1,s77.2.2.2.2.2.2.2.2.2.2.2.2.2.2.2.2.2.2.2.2.2.2.2.1,s77.2.2.2.2.2.2.2.2.2.2.2.2.2.2.2.2.2.2.2.2.2.2.2.2))))))) (cond (s77.1==36000) (some (.inr (false,s77.2.2.1,s77.2.2.2.2.2.2.2.2.2.2.2.2.2.2.1,s77.2.2.2.2.2.2.2.2.2.2.2.2.2.2.2.1,s77.2.1,s77.2.2.1,s77.2.2.2.1,s77.2.2.2.2.1,s77.2.2.2.2.2.1,s77.2.2.2.2.2.2.1,s77.2.2.2.2.2.2.2.1,s77.2.2.2.2.2.2.2.2.1,s77.2.2.2.2.2.2.2.2.2.1,s77.2.2.2.2.2.2.2.2.2.2.1,s77.2.1,s77.2.2.2.1,s77.2.2.2.2.1,s77.2.2.2.2.2.1,s77.2.2.2.2.2.2.1,s77.2.2.2.2.2.2.2.1,s77.2.2.2.2.2.2.2.2.1,s77.2.2.2.2.2.2.2.2.2.1,s77.2.2.2.2.2.2.2.2.2.2.1,s77.2.2.2.2.2.2.2.2.2.2.2.2.2.2.1,s77.2.2.2.2.2.2.2.2.2.2.2.2.2.2.2.1))) (Zb (zaO p_0 (s77.2.2.2.2.2.2.2.2.2.2.2.2.2.2.1,s77.2.2.2.2.2.2.2.2.2.2.2.2.2.2.2.1,()) p_2) λy96=>
cond (!y96.2) (some (.inr (false,s77.2.2.1,s77.2.2.2.2.2.2.2.2.2.2.2.2.2.2.1,s77.2.2.2.2.2.2.2.2.2.2.2.2.2.2.2.1,s77.2.1,s77.2.2.1,s77.2.2.2.1,s77.2.2.2.2.1,s77.2.2.2.2.2.1,s77.2.2.2.2.2.2.1,s77.2.2.2.2.2.2.2.1,s77.2.2.2.2.2.2.2.2.1,s77.2.2.2.2.2.2.2.2.2.1,s77.2.2.2.2.2.2.2.2.2.2.1,s77.2.1,s77.2.2.2.1,s77.2.2.2.2.1,s77.2.2.2.2.2.1,s77.2.2.2.2.2.2.1,s77.2.2.2.2.2.2.2.1,s77.2.2.2.2.2.2.2.2.1,s77.2.2.2.2.2.2.2.2.2.1,s77.2.2.2.2.2.2.2.2.2.2.1,s77.2.2.2.2.2.2.2.2.2.2.2.2.2.2.1,s77.2.2.2.2.2.2.2.2.2.2.2.2.2.2.2.1))) (cond (decide (y96.1.1.2.1>10000000000000000)) (some (.inr (false,s77.2.2.1,s77.2.2.2.2.2.2.2.2.2.2.2.2.2.2.1,s77.2.2.2.2.2.2.2.2.2.2.2.2.2.2.2.1,s77.2.1,s77.2.2.1,s77.2.2.2.1,s77.2.2.2.2.1,s77.2.2.2.2.2.1,s77.2.2.2.2.2.2.1,s77.2.2.2.2.2.2.2.1,s77.2.2.2.2.2.2.2.2.1,s77.2.2.2.2.2.2.2.2.2.1,s77.2.2.2.2.2.2.2.2.2.2.1,s77.2.1,s77.2.2.2.1,s77.2.2.2.2.1,s77.2.2.2.2.2.1,s77.2.2.2.2.2.2.1,s77.2.2.2.2.2.2.2.1,s77.2.2.2.2.2.2.2.2.1,s77.2.2.2.2.2.2.2.2.2.1,s77.2.2.2.2.2.2.2.2.2.2.1,s77.2.2.2.2.2.2.2.2.2.2.2.2.2.2.1,s77.2.2.2.2.2.2.2.2.2.2.2.2.2.2.2.1))) (Zb (zcH ([(s77.2.2.2.1,s77.2.2.2.2.1,s77.2.2.2.2.2.1,s77.2.2.2.2.2.2.1,s77.2.2.2.2.2.2.2.1,s77.2.2.2.2.2.2.2.2.1,()),y96.1.2.1])) λy102=>
some (.inl ((w64 (s77.1+1)),(w64 (s77.2.1+100)),s77.2.2.1,y102.1,y102.2.1,y102.2.2.1,y102.2.2.2.1,y102.2.2.2.2.1,y102.2.2.2.2.2.1,(max s77.2.2.2.2.2.2.2.2.2.1 y96.1.2.2.1),(max s77.2.2.2.2.2.2.2.2.2.2.1 y96.1.2.2.2.1),s77.2.2.2.2.2.2.2.2.2.2.2.1,s77.2.2.2.2.2.2.2.2.2.2.2.2.1,s77.2.2.2.2.2.2.2.2.2.2.2.2.2.1,y96.1.1.1,y96.1.1.2.1,s77.2.2.2.2.2.2.2.2.2.2.2.2.2.2.2.2.1,s77.2.2.2.2.2.2.2.2.2.2.2.2.2.2.2.2.2.1,s77.2.2.2.2.2.2.2.2.2.2.2.2.2.2.2.2.2.2.1,s77.2.2.2.2.2.2.2.2.2.2.2.2.2.2.2.2.2.2.2.1,s77.2.2.2.2.2.2.2.2.2.2.2.2.2.2.2.2.2.2.2.2.1,s77.2.2.2.2.2.2.2.2.2.2.2.2.2.2.2.2.2.2.2.2.2.1,s77.2.2.2.2.2.2.2.2.2.2.2.2.2.2.2.2.2.2.2.2.2.2.1,s77.2.2.2.2.2.2.2.2.2.2.2.2.2.2.2.2.2.2.2.2.2.2.2.1,s77.2.2.2.2.2.2.2.2.2.2.2.2.2.2.2.2.2.2.2.2.2.2.2.2)))))))
def zsh:(Bool×Int×Int×Int×Int×Int×Int×Int×Int×Int×Int×Int×Int×Int×Int×Int×Int×Int×Int×Int×Int×Int×Int×Int×Int)->Option (Leg×zb×Bool):=λt103=>
some ((t103.2.2.2.2.1,t103.2.2.2.2.2.1,(t103.2.2.2.2.2.2.1,t103.2.2.2.2.2.2.2.1,t103.2.2.2.2.2.2.2.2.1,t103.2.2.2.2.2.2.2.2.2.1,t103.2.2.2.2.2.2.2.2.2.2.1,t103.2.2.2.2.2.2.2.2.2.2.2.1,()),t103.2.2.2.2.2.2.2.2.2.2.2.2.1,t103.2.2.2.2.2.2.2.2.2.2.2.2.2.1,()),(t103.2.2.1,t103.2.2.2.1,()),t103.1)
theorem zwh (a b:Int):w64 (w64 a+b)=w64 (a+b):=by
 simp only [w64,IntKind.wrap,IntKind.bits,IntKind.signed]; simp; omega
def zoq (l m:zX):zX:=(w64 (l.1+m.1),w64 (l.2.1+m.2.1),w64 (l.2.2.1+m.2.2.1),w64 (l.2.2.2.1+m.2.2.2.1),w64 (l.2.2.2.2.1+m.2.2.2.2.1),w64 (l.2.2.2.2.2.1+m.2.2.2.2.2.1),())
theorem zut (l m:zX):zcH [l,m]=some (zoq l m):=by
 unfold zcH;have hL:Lp (λs9:Int×Int×Int×Int×Int×Int×Int=>
cond (decide (s9.1<(zl [l,m]))) (Zb (idx [l,m] s9.1) λx12=>
some (.inl ((w64 (s9.1+1)),(w64 (s9.2.1+x12.1)),(w64 (s9.2.2.1+x12.2.1)),(w64 (s9.2.2.2.1+x12.2.2.1)),(w64 (s9.2.2.2.2.1+x12.2.2.2.1)),(w64 (s9.2.2.2.2.2.1+x12.2.2.2.2.1)),(w64 (s9.2.2.2.2.2.2+x12.2.2.2.2.2.1))))) (some (.inr (s9.2.1,s9.2.2.1,s9.2.2.2.1,s9.2.2.2.2.1,s9.2.2.2.2.2.1,s9.2.2.2.2.2.2)))) 2 (0,0,0,0,0,0,0) (w64 (w64 (0+l.1)+m.1),w64 (w64 (0+l.2.1)+m.2.1),w64 (w64 (0+l.2.2.1)+m.2.2.1),w64 (w64 (0+l.2.2.2.1)+m.2.2.2.1),w64 (w64 (0+l.2.2.2.2.1)+m.2.2.2.2.1),w64 (w64 (0+l.2.2.2.2.2.1)+m.2.2.2.2.2.1)):=Lp.step rfl (Lp.step rfl (Lp.done rfl))
 rw [hL.big (by simp only [big]; omega),Zs];simp only [zwh,Int.zero_add];rfl
section
variable (p:Plan) (way:List zR) (t:Train) (st stop:Int)
def zkv (x:zb):Bool:=x.1==0&&decide (stop-zt t x<=1000)
def zio:Nat->Int->zX->Int->Int->zb->Option (Leg×zb)
 | 0,tm,l,a,b,x=>if zkv t stop x then some ((tm,zt t x,l,a,b,()),x) else none
 | n+1,tm,l,a,b,x=>if zkv t stop x then some ((tm,zt t x,l,a,b,()),x) else
  match znD p way t st stop x with
  | none=>none
  | some d=>zio n (tm+100) (zoq l (zcP p way t st x d).1.2.1) (max a (zcP p way t st x d).1.2.2.1) (max b (zcP p way t st x d).1.2.2.2.1) (zcP p way t st x d).1.1
end
structure zkw (t:Train) (stop:Int) (x:zb):Prop where
 p:0<=x.1/\x.1<=25000*t.1
 w:10*t.1<=x.2.1/\x.2.1<=100000000000000000
 s:zt t x<=stop
section
variable {p:Plan} {way:List zR} {t:Train} {st:Int} {stops:List Int} {x:zb} (hp:zi6 p) (hw:zhQ p way) (ht:zkz t) (hst:0<=st/\st<t.2.2.2.2.2.2.2.2.2.1.length) {stop:Int} (hS:stop<=100000000000)
include hp hw ht hst hS
theorem ziR (hx:zkw t stop x) {d:Int} (hd:znD p way t st stop x=some d):zkw t stop (zcP p way t st x d).1.1/\(zcP p way t st x d).1.1.2.1=x.2.1+(zcP p way t st x d).1.1.1/\zgh p way t stop (zcP p way t st x d).1.1=true:=by
 obtain ⟨h1,h2,h3⟩:=zkt hd;unfold okD at h1;rw [Bool.and_eq_true] at h1;have hm:=ht.m;have hxw:=hx.w;have hso:zo0 t x:=⟨hx.p,⟨by omega,by omega⟩⟩;have hfin:zoh t st d (slS p way t x):=⟨hst,by omega,zho hp hw ht hso _⟩;obtain ⟨n1,n2⟩:=zg5 ht hfin hx.p hso.w h1.1;have hs:=h1.2;unfold zmf at hs;rw [Bool.and_eq_true] at hs;have hf:=hs.1;unfold zgh at hf;rw [Bool.and_eq_true,decide_eq_true_eq] at hf;refine ⟨⟨n1, ?_,hf.1⟩,n2,hs.1⟩;have n2':(zcP p way t st x d).1.1.2.1=x.2.1+(zcP p way t st x d).1.1.1:=n2;have n1':0<=(zcP p way t st x d).1.1.1/\(zcP p way t st x d).1.1.1<=25000*t.1:=n1;refine ⟨by omega, ?_⟩;have h5:=hf.1;unfold zt at h5;have h6:(zcP p way t st x d).1.1.2.1<(stop+1)*(10*t.1):=(Int.ediv_lt_iff_lt_mul (by omega)).1 (by omega);by_cases h0:0<=stop+1
 . have h7:=zcb (a:=stop+1) (b:=10*t.1) (A:=100000000001) (B:=800000) ⟨h0,by omega⟩ ⟨by omega,by omega⟩;omega
 . have h8:=Int.mul_nonneg (a:=-(stop+1)) (b:=10*t.1) (by omega) (by omega);rw [Int.neg_mul] at h8;omega
theorem zmg:∀ (n:Nat) (tm:Int) (l:zX) (a b:Int) (x:zb) (g:Leg) (y:zb),zkw t stop x->zio p way t st stop n tm l a b x=some (g,y)->x.2.1<=y.2.1:=by
 intro n;induction n with
 | zero=>
  intro tm l a b x g y hx h;unfold zio at h;split at h
  . cases h; exact Int.le_refl _
  . cases h
 | succ n ih=>
  intro tm l a b x g y hx h;unfold zio at h;split at h
  . cases h; exact Int.le_refl _
  . cases hd:znD p way t st stop x with
    | none=>rw [hd] at h; cases h
    | some d=>
     rw [hd] at h;obtain ⟨n1,n2,_⟩:=ziR hp hw ht hst hS hx hd;have h3:=ih _ _ _ _ _ _ _ n1 h;have:=n1.p;omega
section
variable {k:Nat} {tm l1 l2 l3 l4 l5 l6 a b v w:Int} (hx:zkw t stop (v,w,()))
include hx
omit hp hw hst in
theorem zfU:zo0 t (v,w,())/\zU (zil p way t st stops).1 (v,w,())=some (zt t (v,w,()))/\zK t (v,w,())=some (zt t (v,w,()))/\0<=zt t (v,w,()):=by
 have hm:=ht.m;have hxw:10*t.1<=w/\w<=100000000000000000:=hx.w;have hso:zo0 t (v,w,()):=⟨hx.p,⟨by show 0<=w; omega,by show w<=_; omega⟩⟩;have h0:0<=w/(10*t.1):=Int.ediv_nonneg (by omega) (by omega);exact ⟨hso,(zg4 ht hso st).1,(zg4 ht hso st).2,h0⟩
theorem zmh (ha:zkv t stop (v,w,())=true):∃ T,zsg (zil p way t st stops) stop ((k:Int),tm,0,l1,l2,l3,l4,l5,l6,a,b,0,0,0,v,w,0,0,0,0,0,0,0,0,0)=some (.inr T)/\zsh T=some ((tm,zt t (v,w,()),(l1,l2,l3,l4,l5,l6,()),a,b,()),(v,w,()),true):=by
 obtain ⟨_,e0,_,h0⟩:=zfU (stops:=stops) (st:=st) (p:=p) (way:=way) ht hS hx;have hs:=hx.s;unfold zkv at ha;rw [Bool.and_eq_true,beq_iff_eq,decide_eq_true_eq] at ha;obtain ⟨ha1,ha2⟩:=ha;have ha1:v=0:=ha1;subst ha1;have hin:inB (stop-zt t (0,w,())) 0 1000=true:=zay.2 (by omega);unfold zsg;simp only [e0,Zs,show ((0:Int)==0)=true from rfl,cond_true,mwithin,zk (n:=stop-zt t (0,w,())) (by omega) (by omega),hin];exact ⟨_,rfl,rfl⟩
theorem zmi (ha:zkv t stop (v,w,())=false) (hk:k=36000\/znD p way t st stop (v,w,())=none):∃ T,zsg (zil p way t st stops) stop ((k:Int),tm,0,l1,l2,l3,l4,l5,l6,a,b,0,0,0,v,w,0,0,0,0,0,0,0,0,0)=some (.inr T)/\∃ L X,zsh T=some (L,X,false):=by
 obtain ⟨hso,e0,_,h0⟩:=zfU (stops:=stops) (st:=st) (p:=p) (way:=way) ht hS hx;have hs:=hx.s;have hm:=ht.m;have hxw:10*t.1<=w/\w<=100000000000000000:=hx.w;have hc:=zku (stops:=stops) hp hw ht hst hx.p (show 0<=((v,w,()):zb).2.1/\((v,w,()):zb).2.1<=500000000000000000 from ⟨by show 0<=w; omega,by show w<=_; omega⟩) stop;unfold zsg;by_cases hv:v=0
 . subst hv;have hin:inB (stop-zt t (0,w,())) 0 1000=false:=by
    cases h:inB (stop-zt t (0,w,())) 0 1000 with
    | false=>rfl
    | true=>
     have:=zay.1 h;unfold zkv at ha;rw [decide_eq_true (by omega)] at ha;cases ha
   simp only [e0,Zs,show ((0:Int)==0)=true from rfl,cond_true,mwithin,zk (n:=stop-zt t (0,w,())) (by omega) (by omega),hin,cond_false];by_cases hk0:k=36000
   . subst hk0;exact ⟨_,rfl,_,_,rfl⟩
   . have hkb:((k:Int)==36000)=false:=by simp; omega
     have hd:=hk.resolve_left hk0;rw [hd] at hc;simp only [hkb,cond_false,hc,Zs,Bool.not_false,cond_true];exact ⟨_,rfl,_,_,rfl⟩
 . have hvb:(v==0)=false:=by simpa using hv
   simp only [e0,Zs,hvb,cond_false];by_cases hk0:k=36000
   . subst hk0;exact ⟨_,rfl,_,_,rfl⟩
   . have hkb:((k:Int)==36000)=false:=by simp; omega
     have hd:=hk.resolve_left hk0;rw [hd] at hc;simp only [hkb,cond_false,hc,Zs,Bool.not_false,cond_true];exact ⟨_,rfl,_,_,rfl⟩
theorem zwi (ha:zkv t stop (v,w,())=false) (hk:k<36000) (htm:0<=tm/\tm<=3600000) {d:Int} (hd:znD p way t st stop (v,w,())=some d) (hfar:(zcP p way t st (v,w,()) d).1.1.2.1<=10000000000000000):zsg (zil p way t st stops) stop ((k:Int),tm,0,l1,l2,l3,l4,l5,l6,a,b,0,0,0,v,w,0,0,0,0,0,0,0,0,0)=some (.inl (((k+1:Nat):Int),tm+100,0,(zoq (l1,l2,l3,l4,l5,l6,()) (zcP p way t st (v,w,()) d).1.2.1).1,(zoq (l1,l2,l3,l4,l5,l6,()) (zcP p way t st (v,w,()) d).1.2.1).2.1,(zoq (l1,l2,l3,l4,l5,l6,()) (zcP p way t st (v,w,()) d).1.2.1).2.2.1,(zoq (l1,l2,l3,l4,l5,l6,()) (zcP p way t st (v,w,()) d).1.2.1).2.2.2.1,(zoq (l1,l2,l3,l4,l5,l6,()) (zcP p way t st (v,w,()) d).1.2.1).2.2.2.2.1,(zoq (l1,l2,l3,l4,l5,l6,()) (zcP p way t st (v,w,()) d).1.2.1).2.2.2.2.2.1,max a (zcP p way t st (v,w,()) d).1.2.2.1,max b (zcP p way t st (v,w,()) d).1.2.2.2.1,0,0,0,(zcP p way t st (v,w,()) d).1.1.1,(zcP p way t st (v,w,()) d).1.1.2.1,0,0,0,0,0,0,0,0,0)):=by
 obtain ⟨hso,e0,_,h0⟩:=zfU (stops:=stops) (st:=st) (p:=p) (way:=way) ht hS hx;have hs:=hx.s;have hm:=ht.m;have hxw:10*t.1<=w/\w<=100000000000000000:=hx.w;have hc:=zku (stops:=stops) hp hw ht hst hx.p (show 0<=((v,w,()):zb).2.1/\((v,w,()):zb).2.1<=500000000000000000 from ⟨by show 0<=w; omega,by show w<=_; omega⟩) stop;have hkb:((k:Int)==36000)=false:=by simp; omega
 rw [hd] at hc;unfold zsg;by_cases hv:v=0
 . subst hv;have hin:inB (stop-zt t (0,w,())) 0 1000=false:=by
    cases h:inB (stop-zt t (0,w,())) 0 1000 with
    | false=>rfl
    | true=>
     have:=zay.1 h;unfold zkv at ha;rw [decide_eq_true (by omega)] at ha;cases ha
   simp only [e0,Zs,show ((0:Int)==0)=true from rfl,cond_true,mwithin,zk (n:=stop-zt t (0,w,())) (by omega) (by omega),hin,cond_false,hkb,hc,Bool.not_true,decide_eq_false (show ¬ (zcP p way t st (0,w,()) d).1.1.2.1>10000000000000000 by omega),zut,zG (show k<9223372036854775807 by omega),zk (n:=tm+100) (by omega) (by omega)]
 . have hvb:(v==0)=false:=by simpa using hv
   simp only [e0,Zs,hvb,cond_false,hkb,hc,Bool.not_true,decide_eq_false (show ¬ (zcP p way t st (v,w,()) d).1.1.2.1>10000000000000000 by omega),zut,zG (show k<9223372036854775807 by omega),zk (n:=tm+100) (by omega) (by omega)]
theorem zpa (ha:zkv t stop (v,w,())=false) (hk:k<36000) (htm:0<=tm/\tm<=3600000) {d:Int} (hd:znD p way t st stop (v,w,())=some d) (hfar:10000000000000000<(zcP p way t st (v,w,()) d).1.1.2.1):∃ T,zsg (zil p way t st stops) stop ((k:Int),tm,0,l1,l2,l3,l4,l5,l6,a,b,0,0,0,v,w,0,0,0,0,0,0,0,0,0)=some (.inr T)/\∃ L X,zsh T=some (L,X,false):=by
 obtain ⟨hso,e0,_,h0⟩:=zfU (stops:=stops) (st:=st) (p:=p) (way:=way) ht hS hx;have hs:=hx.s;have hm:=ht.m;have hxw:10*t.1<=w/\w<=100000000000000000:=hx.w;have hc:=zku (stops:=stops) hp hw ht hst hx.p (show 0<=((v,w,()):zb).2.1/\((v,w,()):zb).2.1<=500000000000000000 from ⟨by show 0<=w; omega,by show w<=_; omega⟩) stop;have hkb:((k:Int)==36000)=false:=by simp; omega
 rw [hd] at hc;unfold zsg;by_cases hv:v=0
 . subst hv;have hin:inB (stop-zt t (0,w,())) 0 1000=false:=by
    cases h:inB (stop-zt t (0,w,())) 0 1000 with
    | false=>rfl
    | true=>
     have:=zay.1 h;unfold zkv at ha;rw [decide_eq_true (by omega)] at ha;cases ha
   simp only [e0,Zs,show ((0:Int)==0)=true from rfl,cond_true,mwithin,zk (n:=stop-zt t (0,w,())) (by omega) (by omega),hin,cond_false,hkb,hc,Bool.not_true,decide_eq_true (show (zcP p way t st (0,w,()) d).1.1.2.1>10000000000000000 from hfar),cond_true];exact ⟨_,rfl,_,_,rfl⟩
 . have hvb:(v==0)=false:=by simpa using hv
   simp only [e0,Zs,hvb,cond_false,hkb,hc,Bool.not_true,decide_eq_true (show (zcP p way t st (v,w,()) d).1.1.2.1>10000000000000000 from hfar),cond_true];exact ⟨_,rfl,_,_,rfl⟩
end
theorem ztV:∀ (n k:Nat) (tm l1 l2 l3 l4 l5 l6 a b v w:Int),k+n=36000->tm=100*k->zkw t stop (v,w,())->w<=10000000000000000->∃ T,Lp (zsg (zil p way t st stops) stop) n ((k:Int),tm,0,l1,l2,l3,l4,l5,l6,a,b,0,0,0,v,w,0,0,0,0,0,0,0,0,0) T/\(match zio p way t st stop n tm (l1,l2,l3,l4,l5,l6,()) a b (v,w,()) with | some (g,y)=>(y.2.1<=10000000000000000->zsh T=some (g,y,true))/\(10000000000000000<y.2.1->∃ L X,zsh T=some (L,X,false)) | none=>∃ L X,zsh T=some (L,X,false)):=by
 intro n;induction n with
 | zero=>
  intro k tm l1 l2 l3 l4 l5 l6 a b v w hk htm hx h16;unfold zio;cases ha:zkv t stop (v,w,()) with
  | true=>
   obtain ⟨T,h1,h2⟩:=zmh (stops:=stops) (k:=k) (tm:=tm) (l1:=l1) (l2:=l2) (l3:=l3) (l4:=l4) (l5:=l5) (l6:=l6) (a:=a) (b:=b) hp hw ht hst hS hx ha;exact ⟨T,Lp.done h1,λ_=>h2,λh=>absurd h (by show ¬ 10000000000000000<w; omega)⟩
  | false=>
   obtain ⟨T,h1,h2⟩:=zmi (stops:=stops) (k:=k) (tm:=tm) (l1:=l1) (l2:=l2) (l3:=l3) (l4:=l4) (l5:=l5) (l6:=l6) (a:=a) (b:=b) hp hw ht hst hS hx ha (.inl (by omega));exact ⟨T,Lp.done h1,h2⟩
 | succ n ih=>
  intro k tm l1 l2 l3 l4 l5 l6 a b v w hk htm hx h16;unfold zio;cases ha:zkv t stop (v,w,()) with
  | true=>
   obtain ⟨T,h1,h2⟩:=zmh (stops:=stops) (k:=k) (tm:=tm) (l1:=l1) (l2:=l2) (l3:=l3) (l4:=l4) (l5:=l5) (l6:=l6) (a:=a) (b:=b) hp hw ht hst hS hx ha;exact ⟨T,Lp.done h1,λ_=>h2,λh=>absurd h (by show ¬ 10000000000000000<w; omega)⟩
  | false=>
   cases hd:znD p way t st stop (v,w,()) with
   | none=>
    obtain ⟨T,h1,h2⟩:=zmi (stops:=stops) (k:=k) (tm:=tm) (l1:=l1) (l2:=l2) (l3:=l3) (l4:=l4) (l5:=l5) (l6:=l6) (a:=a) (b:=b) hp hw ht hst hS hx ha (.inr hd);exact ⟨T,Lp.done h1,h2⟩
   | some d=>
    by_cases hf:(zcP p way t st (v,w,()) d).1.1.2.1<=10000000000000000
    ·have h1:=zwi (stops:=stops) (k:=k) (tm:=tm) (l1:=l1) (l2:=l2) (l3:=l3) (l4:=l4) (l5:=l5) (l6:=l6) (a:=a) (b:=b) hp hw ht hst hS hx ha (by omega) (by omega) hd hf;obtain ⟨T,h2,h3⟩:=ih (k+1) (tm+100) _ _ _ _ _ _ (max a (zcP p way t st (v,w,()) d).1.2.2.1) (max b (zcP p way t st (v,w,()) d).1.2.2.2.1) (zcP p way t st (v,w,()) d).1.1.1 (zcP p way t st (v,w,()) d).1.1.2.1 (by omega) (by omega) (ziR hp hw ht hst hS hx hd).1 hf;exact ⟨T,Lp.step h1 h2,h3⟩
    ·obtain ⟨T,h1,h2⟩:=zpa (stops:=stops) (k:=k) (tm:=tm) (l1:=l1) (l2:=l2) (l3:=l3) (l4:=l4) (l5:=l5) (l6:=l6) (a:=a) (b:=b) hp hw ht hst hS hx ha (by omega) (by omega) hd (by omega);refine ⟨T,Lp.done h1, ?_⟩;simp only [];split
     ·rename_i g y hl;have h3:=zmg hp hw ht hst hS _ _ _ _ _ _ _ _ (ziR hp hw ht hst hS hx hd).1 hl;exact ⟨λh=>absurd h (by omega),λ_=>h2⟩
     ·exact h2
theorem zxM (hx:zkw t stop x) (h16:x.2.1<=10000000000000000):∃ L X,zaA (zil p way t st stops) x stop=some (match zio p way t st stop 36000 0 (0,0,0,0,0,0,()) 0 0 x with | some (g,y)=>if y.2.1<=10000000000000000 then (g,y,true) else (L,X,false) | none=>(L,X,false)):=by
 obtain ⟨T,h1,h2⟩:=ztV (stops:=stops) hp hw ht hst hS 36000 0 0 0 0 0 0 0 0 0 0 x.1 x.2.1 (by omega) (by omega) hx h16;have hB:=h1.big (by simp only [big]; omega);have e:zaA (zil p way t st stops) x stop=zsh T:=(congrArg (λo=>Zb o zsh) hB);rw [e];have e2:((x.1,x.2.1,()):zb)=x:=rfl;rw [e2] at h2;cases hl:zio p way t st stop 36000 0 (0,0,0,0,0,0,()) 0 0 x with
 | some g=>
  rw [hl] at h2;obtain ⟨q1,q2⟩:=h2;by_cases hy:g.2.2.1<=10000000000000000
  ·refine ⟨default,default, ?_⟩;simp only [if_pos hy];exact q1 hy
  ·obtain ⟨L,X,q⟩:=q2 (by omega);refine ⟨L,X, ?_⟩;simp only [if_neg hy];exact q
 | none=>
  rw [hl] at h2;obtain ⟨L,X,h2⟩:=h2;exact ⟨L,X,h2⟩
theorem zwj (hx:zkw t stop x) (h16:10000000000000000<x.2.1):∃ R,zaA (zil p way t st stops) x stop=some R:=by
 have key:∃ T R,zsg (zil p way t st stops) stop (((0:Nat):Int),0,0,0,0,0,0,0,0,0,0,0,0,0,x.1,x.2.1,0,0,0,0,0,0,0,0,0)=some (.inr T)/\zsh T=some R:=by
  have hx':zkw t stop (x.1,x.2.1,()):=hx;cases ha:zkv t stop (x.1,x.2.1,()) with
  | true=>
   obtain ⟨T,h1,h2⟩:=zmh (stops:=stops) (k:=0) (tm:=0) (l1:=0) (l2:=0) (l3:=0) (l4:=0) (l5:=0) (l6:=0) (a:=0) (b:=0) hp hw ht hst hS hx' ha;exact ⟨T,_,h1,h2⟩
  | false=>
   cases hd:znD p way t st stop (x.1,x.2.1,()) with
   | none=>
    obtain ⟨T,h1,L,X,h2⟩:=zmi (stops:=stops) (k:=0) (tm:=0) (l1:=0) (l2:=0) (l3:=0) (l4:=0) (l5:=0) (l6:=0) (a:=0) (b:=0) hp hw ht hst hS hx' ha (.inr hd);exact ⟨T,_,h1,h2⟩
   | some d=>
    obtain ⟨n1,n2,_⟩:=ziR hp hw ht hst hS hx' hd;have n2':(zcP p way t st (x.1,x.2.1,()) d).1.1.2.1=x.2.1+(zcP p way t st (x.1,x.2.1,()) d).1.1.1:=n2;have:=n1.p;obtain ⟨T,h1,L,X,h2⟩:=zpa (stops:=stops) (k:=0) (tm:=0) (l1:=0) (l2:=0) (l3:=0) (l4:=0) (l5:=0) (l6:=0) (a:=0) (b:=0) hp hw ht hst hS hx' ha (by omega) (by omega) hd (by omega);exact ⟨T,_,h1,h2⟩
 obtain ⟨T,R,h1,h2⟩:=key;have hB:=(Lp.done (N:=0) h1).big (by simp only [big]; omega);refine ⟨R, ?_⟩;rw [← h2];exact (congrArg (λo=>Zb o zsh) hB)
end
end Go.Ai.Sx
/- Motion: the reference's leg. -/
namespace Go.Ai.Sx
open Option renaming bind->Zb,bind_some->Zs
def zjf (p_0:Plan) (p_1:List zR) (p_2:Train) (p_3:Int) (p_4:List Int) (i_281:Int) (x286:Int):(Int×Int×Int×Int×Int×Int×Int×Int×Int×Int×Int×Int)->Option ((Int×Int×Int×Int×Int×Int×Int×Int×Int×Int×Int×Int)⊕((Train×zb×Int×(List Int)×Int×Int×Int×Int×Bool×Int×Int×Int×Int×Int×Int×Int×Int×Int×Int×Int)⊕((List Leg)×Bool×Int×Int×Int×Int×Int×Int×Int×Int×Int×Int×Int))):=(λs371=>
cond (decide (s371.2.2.2.2.2.2.2.2.2.2.1>0)) (cond (s371.1==36000) (some (.inr (.inr ([],false,s371.2.1,s371.2.2.1,s371.2.2.2.1,s371.2.2.2.2.1,s371.2.2.2.2.2.1,s371.2.2.2.2.2.2.1,s371.2.2.2.2.2.2.2.1,s371.2.2.2.2.2.2.2.2.1,s371.2.2.2.2.2.2.2.2.2.1,s371.2.2.2.2.2.2.2.2.2.2.1,s371.2.2.2.2.2.2.2.2.2.2.2)))) (cond (decide (s371.2.2.2.2.2.2.2.2.2.2.2>10000000000000000)) (some (.inr (.inr ([],false,s371.2.1,s371.2.2.1,s371.2.2.2.1,s371.2.2.2.2.1,s371.2.2.2.2.2.1,s371.2.2.2.2.2.2.1,s371.2.2.2.2.2.2.2.1,s371.2.2.2.2.2.2.2.2.1,s371.2.2.2.2.2.2.2.2.2.1,s371.2.2.2.2.2.2.2.2.2.2.1,s371.2.2.2.2.2.2.2.2.2.2.2)))) (Zb (zca ((p_0,p_1,p_2,p_3,x286,()):z6) (s371.2.2.2.2.2.2.2.2.2.2.1,s371.2.2.2.2.2.2.2.2.2.2.2,())) λy385=>
cond (!y385.2) (some (.inr (.inr ([],false,s371.2.1,s371.2.2.1,s371.2.2.2.1,s371.2.2.2.2.1,s371.2.2.2.2.2.1,s371.2.2.2.2.2.2.1,s371.2.2.2.2.2.2.2.1,s371.2.2.2.2.2.2.2.2.1,s371.2.2.2.2.2.2.2.2.2.1,s371.2.2.2.2.2.2.2.2.2.2.1,s371.2.2.2.2.2.2.2.2.2.2.2)))) (Zb (zK p_2 (s371.2.2.2.2.2.2.2.2.2.2.1,s371.2.2.2.2.2.2.2.2.2.2.2,())) λy389=>
Zb (zaX ((p_0,p_1,p_2,p_3,x286,()):z6) y389) λy390=>
Zb (zbq p_2 (s371.2.2.2.2.2.2.2.2.2.2.1,s371.2.2.2.2.2.2.2.2.2.2.2,()) y385.1 y390 p_3) λy391=>
Zb (zaE p_2 (s371.2.2.2.2.2.2.2.2.2.2.1,s371.2.2.2.2.2.2.2.2.2.2.2,()) y385.1 y390 p_3) λy392=>
Zb (zeB (s371.2.2.1,s371.2.2.2.1,s371.2.2.2.2.1,s371.2.2.2.2.2.1,s371.2.2.2.2.2.2.1,s371.2.2.2.2.2.2.2.1,()) y392.2.1) λy395=>
some (.inl ((w64 (s371.1+1)),(w64 (s371.2.1+100)),y395.1,y395.2.1,y395.2.2.1,y395.2.2.2.1,y395.2.2.2.2.1,y395.2.2.2.2.2.1,(max s371.2.2.2.2.2.2.2.2.1 y391.1),(max s371.2.2.2.2.2.2.2.2.2.1 y391.2),y392.1.1,y392.1.2.1)))))) (Zb (zK p_2 (s371.2.2.2.2.2.2.2.2.2.2.1,s371.2.2.2.2.2.2.2.2.2.2.2,())) λy396=>
Zb (idx p_4 i_281) λx397=>
cond (decide (y396<(w64 (x397-1000)))) (cond (s371.1==36000) (some (.inr (.inr ([],false,s371.2.1,s371.2.2.1,s371.2.2.2.1,s371.2.2.2.2.1,s371.2.2.2.2.2.1,s371.2.2.2.2.2.2.1,s371.2.2.2.2.2.2.2.1,s371.2.2.2.2.2.2.2.2.1,s371.2.2.2.2.2.2.2.2.2.1,s371.2.2.2.2.2.2.2.2.2.2.1,s371.2.2.2.2.2.2.2.2.2.2.2)))) (cond (decide (s371.2.2.2.2.2.2.2.2.2.2.2>10000000000000000)) (some (.inr (.inr ([],false,s371.2.1,s371.2.2.1,s371.2.2.2.1,s371.2.2.2.2.1,s371.2.2.2.2.2.1,s371.2.2.2.2.2.2.1,s371.2.2.2.2.2.2.2.1,s371.2.2.2.2.2.2.2.2.1,s371.2.2.2.2.2.2.2.2.2.1,s371.2.2.2.2.2.2.2.2.2.2.1,s371.2.2.2.2.2.2.2.2.2.2.2)))) (Zb (zca ((p_0,p_1,p_2,p_3,x286,()):z6) (s371.2.2.2.2.2.2.2.2.2.2.1,s371.2.2.2.2.2.2.2.2.2.2.2,())) λy403=>
cond (!y403.2) (some (.inr (.inr ([],false,s371.2.1,s371.2.2.1,s371.2.2.2.1,s371.2.2.2.2.1,s371.2.2.2.2.2.1,s371.2.2.2.2.2.2.1,s371.2.2.2.2.2.2.2.1,s371.2.2.2.2.2.2.2.2.1,s371.2.2.2.2.2.2.2.2.2.1,s371.2.2.2.2.2.2.2.2.2.2.1,s371.2.2.2.2.2.2.2.2.2.2.2)))) (Zb (zK p_2 (s371.2.2.2.2.2.2.2.2.2.2.1,s371.2.2.2.2.2.2.2.2.2.2.2,())) λy407=>
Zb (zaX ((p_0,p_1,p_2,p_3,x286,()):z6) y407) λy408=>
Zb (zbq p_2 (s371.2.2.2.2.2.2.2.2.2.2.1,s371.2.2.2.2.2.2.2.2.2.2.2,()) y403.1 y408 p_3) λy409=>
Zb (zaE p_2 (s371.2.2.2.2.2.2.2.2.2.2.1,s371.2.2.2.2.2.2.2.2.2.2.2,()) y403.1 y408 p_3) λy410=>
Zb (zeB (s371.2.2.1,s371.2.2.2.1,s371.2.2.2.2.1,s371.2.2.2.2.2.1,s371.2.2.2.2.2.2.1,s371.2.2.2.2.2.2.2.1,()) y410.2.1) λy413=>
some (.inl ((w64 (s371.1+1)),(w64 (s371.2.1+100)),y413.1,y413.2.1,y413.2.2.1,y413.2.2.2.1,y413.2.2.2.2.1,y413.2.2.2.2.2.1,(max s371.2.2.2.2.2.2.2.2.1 y409.1),(max s371.2.2.2.2.2.2.2.2.2.1 y409.2),y410.1.1,y410.1.2.1)))))) (some (.inr (.inl (p_2,(s371.2.2.2.2.2.2.2.2.2.2.1,s371.2.2.2.2.2.2.2.2.2.2.2,()),y396,p_4,i_281,x397,x397,(w64 (x397-1000)),(decide (y396<(w64 (x397-1000)))),s371.2.1,s371.2.2.1,s371.2.2.2.1,s371.2.2.2.2.1,s371.2.2.2.2.2.1,s371.2.2.2.2.2.2.1,s371.2.2.2.2.2.2.2.1,s371.2.2.2.2.2.2.2.2.1,s371.2.2.2.2.2.2.2.2.2.1,s371.2.2.2.2.2.2.2.2.2.2.1,s371.2.2.2.2.2.2.2.2.2.2.2))))))
def zmj (p_2:Train) (a_281:List Leg) (i_281:Int):((Train×zb×Int×(List Int)×Int×Int×Int×Int×Bool×Int×Int×Int×Int×Int×Int×Int×Int×Int×Int×Int)⊕((List Leg)×Bool×Int×Int×Int×Int×Int×Int×Int×Int×Int×Int×Int))->Option (((List Leg)×Int×Int×Int)⊕(((List Leg)×Int×Int)⊕((List Leg)×Bool))):=λt414=>
alt (λb416=>Zb (zK p_2 (b416.2.2.2.2.2.2.2.2.2.2.2.2.2.2.2.2.2.2.1,b416.2.2.2.2.2.2.2.2.2.2.2.2.2.2.2.2.2.2.2,())) λy418=>
Zb (zcL 80 a_281 ([(b416.2.2.2.2.2.2.2.2.2.1,y418,(b416.2.2.2.2.2.2.2.2.2.2.1,b416.2.2.2.2.2.2.2.2.2.2.2.1,b416.2.2.2.2.2.2.2.2.2.2.2.2.1,b416.2.2.2.2.2.2.2.2.2.2.2.2.2.1,b416.2.2.2.2.2.2.2.2.2.2.2.2.2.2.1,b416.2.2.2.2.2.2.2.2.2.2.2.2.2.2.2.1,()),b416.2.2.2.2.2.2.2.2.2.2.2.2.2.2.2.2.1,b416.2.2.2.2.2.2.2.2.2.2.2.2.2.2.2.2.2.1,())])) λx419=>
some (.inl (x419,(w64 (i_281+1)),b416.2.2.2.2.2.2.2.2.2.2.2.2.2.2.2.2.2.2.1,b416.2.2.2.2.2.2.2.2.2.2.2.2.2.2.2.2.2.2.2))) (λb417=>some (.inr (.inr (b417.1,b417.2.1)))) t414
section
variable {p:Plan} {way:List zR} {t:Train} {st:Int} {stops:List Int} {x:zb} (hp:zi6 p) (hw:zhQ p way) (ht:zkz t) (hst:0<=st/\st<t.2.2.2.2.2.2.2.2.2.1.length) {stop:Int} (hS:stop<=100000000000) {i:Int} (hi:idx stops i=some stop) (hi0:0<=i/\i<=1000000) (hs0:0<=stop)
include hp hw ht hst hS hi hi0 hs0
section
variable {k:Nat} {tm l1 l2 l3 l4 l5 l6 a b v w:Int} (hx:zkw t stop (v,w,()))
include hx
theorem znv (ha:zkv t stop (v,w,())=true):∃ T,zjf p way t st stops i stop ((k:Int),tm,l1,l2,l3,l4,l5,l6,a,b,v,w)=some (.inr T)/\∀ acc:List Leg,acc.length<=1000000->zmj t acc i T=some (.inl (acc++[(tm,zt t (v,w,()),(l1,l2,l3,l4,l5,l6,()),a,b,())],w64 (i+1),v,w)):=by
 obtain ⟨_,_,e0,h0⟩:=zfU (stops:=stops) (st:=st) (p:=p) (way:=way) ht hS hx;have hs:=hx.s;unfold zkv at ha;rw [Bool.and_eq_true,beq_iff_eq,decide_eq_true_eq] at ha;obtain ⟨ha1,ha2⟩:=ha;have ha1:v=0:=ha1;subst ha1;unfold zjf;simp only [e0,Zs,decide_eq_false (show ¬ (0:Int)>0 by omega),cond_false,hi,zk (n:=stop-1000) (by omega) (by omega),decide_eq_false (show ¬ zt t (0,w,())<stop-1000 by omega)];refine ⟨_,rfl,λacc hacc=>?_⟩;unfold zmj;simp only [zbC,e0,Zs];rw [za8 (by simp; omega),Zs]
theorem znw (ha:zkv t stop (v,w,())=false) (hk:k=36000\/znD p way t st stop (v,w,())=none/\w<=10000000000000000):∃ T,zjf p way t st stops i stop ((k:Int),tm,l1,l2,l3,l4,l5,l6,a,b,v,w)=some (.inr T)/\∀ acc:List Leg,zmj t acc i T=some (.inr (.inr ([],false))):=by
 obtain ⟨hso,_,e0,h0⟩:=zfU (stops:=stops) (st:=st) (p:=p) (way:=way) ht hS hx;have hs:=hx.s;have hm:=ht.m;have hxw:10*t.1<=w/\w<=100000000000000000:=hx.w;have hxp:0<=v/\v<=25000*t.1:=hx.p;have hc:=znu hp hw ht hst hx.p (show 10*t.1<=((v,w,()):zb).2.1/\((v,w,()):zb).2.1<=500000000000000000 from ⟨by show _<=w; omega,by show w<=_; omega⟩) stop;unfold zjf;by_cases hv:v=0
 . subst hv;have hlt:zt t (0,w,())<stop-1000:=by
    unfold zkv at ha;rw [show (((0,w,()):zb).1==0)=true from rfl,Bool.true_and,decide_eq_false_iff_not] at ha;omega
   simp only [e0,Zs,decide_eq_false (show ¬ (0:Int)>0 by omega),cond_false,hi,zk (n:=stop-1000) (by omega) (by omega),decide_eq_true hlt,cond_true];by_cases hk0:k=36000
   . subst hk0;exact ⟨_,rfl,λacc=>rfl⟩
   . have hkb:((k:Int)==36000)=false:=by simp; omega
     obtain ⟨hd,h16⟩:=hk.resolve_left hk0;rw [hd] at hc;simp only [hkb,cond_false,decide_eq_false (show ¬ w>10000000000000000 by omega),hc,Zs,Bool.not_false,cond_true];exact ⟨_,rfl,λacc=>rfl⟩
 . simp only [decide_eq_true (show v>0 by omega),cond_true];by_cases hk0:k=36000
   . subst hk0;exact ⟨_,rfl,λacc=>rfl⟩
   . have hkb:((k:Int)==36000)=false:=by simp; omega
     obtain ⟨hd,h16⟩:=hk.resolve_left hk0;rw [hd] at hc;simp only [hkb,cond_false,decide_eq_false (show ¬ w>10000000000000000 by omega),hc,Zs,Bool.not_false,cond_true];exact ⟨_,rfl,λacc=>rfl⟩
theorem zrT (ha:zkv t stop (v,w,())=false) (h16:10000000000000000<w):∃ T,zjf p way t st stops i stop ((k:Int),tm,l1,l2,l3,l4,l5,l6,a,b,v,w)=some (.inr T)/\∀ acc:List Leg,zmj t acc i T=some (.inr (.inr ([],false))):=by
 obtain ⟨hso,_,e0,h0⟩:=zfU (stops:=stops) (st:=st) (p:=p) (way:=way) ht hS hx;have hs:=hx.s;have hm:=ht.m;have hxw:10*t.1<=w/\w<=100000000000000000:=hx.w;have hxp:0<=v/\v<=25000*t.1:=hx.p;unfold zjf;by_cases hv:v=0
 . subst hv;have hlt:zt t (0,w,())<stop-1000:=by
    unfold zkv at ha;rw [show (((0,w,()):zb).1==0)=true from rfl,Bool.true_and,decide_eq_false_iff_not] at ha;omega
   simp only [e0,Zs,decide_eq_false (show ¬ (0:Int)>0 by omega),cond_false,hi,zk (n:=stop-1000) (by omega) (by omega),decide_eq_true hlt,cond_true];by_cases hk0:k=36000
   . subst hk0;exact ⟨_,rfl,λacc=>rfl⟩
   . have hkb:((k:Int)==36000)=false:=by simp; omega
     simp only [hkb,cond_false,decide_eq_true (show w>10000000000000000 by omega),cond_true];exact ⟨_,rfl,λacc=>rfl⟩
 . simp only [decide_eq_true (show v>0 by omega),cond_true];by_cases hk0:k=36000
   . subst hk0;exact ⟨_,rfl,λacc=>rfl⟩
   . have hkb:((k:Int)==36000)=false:=by simp; omega
     simp only [hkb,cond_false,decide_eq_true (show w>10000000000000000 by omega),cond_true];exact ⟨_,rfl,λacc=>rfl⟩
theorem ztW (ha:zkv t stop (v,w,())=false) (hk:k<36000) (htm:0<=tm/\tm<=3600000) {d:Int} (hd:znD p way t st stop (v,w,())=some d) (h16:w<=10000000000000000):zjf p way t st stops i stop ((k:Int),tm,l1,l2,l3,l4,l5,l6,a,b,v,w)=some (.inl (((k+1:Nat):Int),tm+100,(zoq (l1,l2,l3,l4,l5,l6,()) (zcP p way t st (v,w,()) d).1.2.1).1,(zoq (l1,l2,l3,l4,l5,l6,()) (zcP p way t st (v,w,()) d).1.2.1).2.1,(zoq (l1,l2,l3,l4,l5,l6,()) (zcP p way t st (v,w,()) d).1.2.1).2.2.1,(zoq (l1,l2,l3,l4,l5,l6,()) (zcP p way t st (v,w,()) d).1.2.1).2.2.2.1,(zoq (l1,l2,l3,l4,l5,l6,()) (zcP p way t st (v,w,()) d).1.2.1).2.2.2.2.1,(zoq (l1,l2,l3,l4,l5,l6,()) (zcP p way t st (v,w,()) d).1.2.1).2.2.2.2.2.1,max a (zcP p way t st (v,w,()) d).1.2.2.1,max b (zcP p way t st (v,w,()) d).1.2.2.2.1,(zcP p way t st (v,w,()) d).1.1.1,(zcP p way t st (v,w,()) d).1.1.2.1)):=by
 obtain ⟨hso,_,e0,h0⟩:=zfU (stops:=stops) (st:=st) (p:=p) (way:=way) ht hS hx;have hs:=hx.s;have hm:=ht.m;have hxw:10*t.1<=w/\w<=100000000000000000:=hx.w;have hxp:0<=v/\v<=25000*t.1:=hx.p;have hc:=znu hp hw ht hst hx.p (show 10*t.1<=((v,w,()):zb).2.1/\((v,w,()):zb).2.1<=500000000000000000 from ⟨by show _<=w; omega,by show w<=_; omega⟩) stop;have hkb:((k:Int)==36000)=false:=by simp; omega
 rw [hd] at hc;obtain ⟨_,q2,q3⟩:=zkt hd;have hfin:zoh t st d (ze9 p way (zt t (v,w,()))):=⟨hst,by omega,zho hp hw ht hso _⟩;have hsl:=zgg (st:=st) (stop:=stop) hp hw ht (show 0<=zt t (v,w,())/\zt t (v,w,())<=4000000000000000000 by omega);have hpw:zbq t (v,w,()) d (ze9 p way (zt t (v,w,()))) st=some ((zcP p way t st (v,w,()) d).1.2.2.1,(zcP p way t st (v,w,()) d).1.2.2.2.1):=zxE ht hfin hso;have hsp:zaE t (v,w,()) d (ze9 p way (zt t (v,w,()))) st=some ((zcP p way t st (v,w,()) d).1.1,(zcP p way t st (v,w,()) d).1.2.1,(zcP p way t st (v,w,()) d).2):=zl1 ht hfin hso;have hsm:∀ l m:zX,zeB l m=some (zoq l m):=λl m=>rfl;unfold zjf;by_cases hv:v=0
 . subst hv;have hlt:zt t (0,w,())<stop-1000:=by
    unfold zkv at ha;rw [show (((0,w,()):zb).1==0)=true from rfl,Bool.true_and,decide_eq_false_iff_not] at ha;omega
   simp only [e0,Zs,decide_eq_false (show ¬ (0:Int)>0 by omega),cond_false,hi,zk (n:=stop-1000) (by omega) (by omega),decide_eq_true hlt,cond_true,hkb,decide_eq_false (show ¬ w>10000000000000000 by omega),hc,Bool.not_true,hsl,hpw,hsp,hsm,zG (show k<9223372036854775807 by omega),zk (n:=tm+100) (by omega) (by omega)]
 . simp only [e0,Zs,decide_eq_true (show v>0 by omega),cond_true,cond_false,hkb,decide_eq_false (show ¬ w>10000000000000000 by omega),hc,Bool.not_true,hsl,hpw,hsp,hsm,zG (show k<9223372036854775807 by omega),zk (n:=tm+100) (by omega) (by omega)]
end
theorem zrU:∀ (n k:Nat) (tm l1 l2 l3 l4 l5 l6 a b v w:Int),k+n=36000->tm=100*k->zkw t stop (v,w,())->∃ T,Lp (zjf p way t st stops i stop) n ((k:Int),tm,l1,l2,l3,l4,l5,l6,a,b,v,w) T/\((∀ acc:List Leg,acc.length<=1000000->zmj t acc i T=some (match zio p way t st stop n tm (l1,l2,l3,l4,l5,l6,()) a b (v,w,()) with | some (g,y)=>.inl (acc++[g],w64 (i+1),y.1,y.2.1) | none=>.inr (.inr ([],false))))\/((∀ acc:List Leg,zmj t acc i T=some (.inr (.inr ([],false))))/\∀ g y,zio p way t st stop n tm (l1,l2,l3,l4,l5,l6,()) a b (v,w,())=some (g,y)->10000000000000000<y.2.1)):=by
 intro n;induction n with
 | zero=>
  intro k tm l1 l2 l3 l4 l5 l6 a b v w hk htm hx;unfold zio;cases ha:zkv t stop (v,w,()) with
  | true=>
   obtain ⟨T,h1,h2⟩:=znv (k:=k) (tm:=tm) (l1:=l1) (l2:=l2) (l3:=l3) (l4:=l4) (l5:=l5) (l6:=l6) (a:=a) (b:=b) hp hw ht hst hS hi hi0 hs0 hx ha;exact ⟨T,Lp.done h1,.inl h2⟩
  | false=>
   obtain ⟨T,h1,h2⟩:=znw (k:=k) (tm:=tm) (l1:=l1) (l2:=l2) (l3:=l3) (l4:=l4) (l5:=l5) (l6:=l6) (a:=a) (b:=b) hp hw ht hst hS hi hi0 hs0 hx ha (.inl (by omega));exact ⟨T,Lp.done h1,.inl λacc _=>h2 acc⟩
 | succ n ih=>
  intro k tm l1 l2 l3 l4 l5 l6 a b v w hk htm hx;have hmono:=λg y=>zmg hp hw ht hst hS (n+1) tm (l1,l2,l3,l4,l5,l6,()) a b (v,w,()) g y hx;unfold zio at hmono ⊢;cases ha:zkv t stop (v,w,()) with
  | true=>
   obtain ⟨T,h1,h2⟩:=znv (k:=k) (tm:=tm) (l1:=l1) (l2:=l2) (l3:=l3) (l4:=l4) (l5:=l5) (l6:=l6) (a:=a) (b:=b) hp hw ht hst hS hi hi0 hs0 hx ha;exact ⟨T,Lp.done h1,.inl h2⟩
  | false=>
   by_cases h16:w<=10000000000000000;rotate_left
   ·obtain ⟨T,h1,h2⟩:=zrT (k:=k) (tm:=tm) (l1:=l1) (l2:=l2) (l3:=l3) (l4:=l4) (l5:=l5) (l6:=l6) (a:=a) (b:=b) hp hw ht hst hS hi hi0 hs0 hx ha (by omega);refine ⟨T,Lp.done h1,.inr ⟨h2,λg y hl=>?_⟩⟩;rw [ha] at hmono;have h3:w<=y.2.1:=hmono g y hl;omega
   cases hd:znD p way t st stop (v,w,()) with
   | none=>
    obtain ⟨T,h1,h2⟩:=znw (k:=k) (tm:=tm) (l1:=l1) (l2:=l2) (l3:=l3) (l4:=l4) (l5:=l5) (l6:=l6) (a:=a) (b:=b) hp hw ht hst hS hi hi0 hs0 hx ha (.inr ⟨hd,h16⟩);exact ⟨T,Lp.done h1,.inl λacc _=>h2 acc⟩
   | some d=>
    have h1:=ztW (k:=k) (tm:=tm) (l1:=l1) (l2:=l2) (l3:=l3) (l4:=l4) (l5:=l5) (l6:=l6) (a:=a) (b:=b) hp hw ht hst hS hi hi0 hs0 hx ha (by omega) (by omega) hd h16;obtain ⟨T,h2,h3⟩:=ih (k+1) (tm+100) _ _ _ _ _ _ (max a (zcP p way t st (v,w,()) d).1.2.2.1) (max b (zcP p way t st (v,w,()) d).1.2.2.2.1) (zcP p way t st (v,w,()) d).1.1.1 (zcP p way t st (v,w,()) d).1.1.2.1 (by omega) (by omega) (ziR hp hw ht hst hS hx hd).1;exact ⟨T,Lp.step h1 h2,h3⟩
theorem zwk (hx:zkw t stop x) (acc:List Leg) (hacc:acc.length<=1000000):Zb (iter (zjf p way t st stops i stop) big (0,0,0,0,0,0,0,0,0,0,x.1,x.2.1)) (zmj t acc i)=some (match zio p way t st stop 36000 0 (0,0,0,0,0,0,()) 0 0 x with | some (g,y)=>.inl (acc++[g],w64 (i+1),y.1,y.2.1) | none=>.inr (.inr ([],false)))\/(Zb (iter (zjf p way t st stops i stop) big (0,0,0,0,0,0,0,0,0,0,x.1,x.2.1)) (zmj t acc i)=some (.inr (.inr ([],false)))/\∀ g y,zio p way t st stop 36000 0 (0,0,0,0,0,0,()) 0 0 x=some (g,y)->10000000000000000<y.2.1):=by
 obtain ⟨T,h1,h2⟩:=zrU hp hw ht hst hS hi hi0 hs0 36000 0 0 0 0 0 0 0 0 0 0 x.1 x.2.1 (by omega) (by omega) hx;have hB:=h1.big (by simp only [big]; omega);rw [show ((0:Nat):Int)=0 from rfl] at hB;rw [hB,Zs];exact h2.imp (λh=>h acc hacc) (λh=>⟨h.1 acc,h.2⟩)
end
end Go.Ai.Sx
/- Motion: a run begins. -/
namespace Go.Ai.Sx
open Option renaming bind->Zb,bind_some->Zs
def zcR (stops:List Int) (k:Nat):Int:=stops.getD k 0
def zxN (stops:List Int):Bool:=(List.range (stops.length-1)).all λk=>!decide (zcR stops (k+1)<=zcR stops k)
def zgi (p:Plan) (way:List zR) (t:Train) (st:Int) (stops:List Int):Bool:=
 zbe p&&(zkA p way&&(trB t&&(inB st 0 (t.2.2.2.2.2.2.2.2.2.1.length-1)&&(inB (zl stops) 2 100&&(!decide (zcR stops 0<t.2.1)&&(zxN stops&&decide (zcR stops (stops.length-1)<=wlS p way)))))))
theorem zpb {stops:List Int} (hl:2<=stops.length/\stops.length<=100) {τ:Type} (r0 r1:τ) {F:Int->Option (Int⊕τ)}
 (hF:∀ s,F s=cond (decide (s<(zl stops))) (Zb (idx stops s) λx37=>
Zb (idx stops (w64 (s-1))) λx38=>
cond (decide (x37<=x38)) (some (.inr r0)) (some (.inl (w64 (s+1))))) (some (.inr r1))):iter F big 1=some (if zxN stops then r1 else r0):=by
 refine zfE (λk=>((k+1:Nat):Int)) (stops.length-1) (λk=>!decide (zcR stops (k+1)<=zcR stops k)) r0 r1 rfl (by simp only [big]; omega) (λk hk=>?_) ?_
 . rw [hF,zM (show k+1<stops.length by omega),cond_true,zy 0 (by omega),Zs,show w64 (((k+1:Nat):Int)-1)=(k:Int) by rw [zk (by omega) (by omega)]; omega,zy 0 (by omega),Zs,zG (by omega)];show cond (decide (zcR stops (k+1)<=zcR stops k)) _ _=_;cases decide (zcR stops (k+1)<=zcR stops k)<;>rfl
 . rw [hF,show stops.length-1+1=stops.length by omega,zV]; rfl
theorem zjx {A:Type} (n:Nat) (f:Nat->A):rlN (n+1) f=rlN n f++[f n]:=by
 unfold rlN;rw [List.range_succ,List.map_append]; rfl
theorem zrV {stops:List Int} (hl:2<=stops.length/\stops.length<=100):idx stops (w64 (zl stops-1))=some (zcR stops (stops.length-1)):=by
 rw [zx,show w64 ((stops.length:Int)-1)=((stops.length-1:Nat):Int) by rw [zk (by omega) (by omega)]; omega];exact zy 0 (by omega)
theorem ztX {p:Plan} {way:List zR} {t:Train} (hv:zbe p=true) (hp:zi6 p) (hw:zhQ p way):iter (σ:=(Int×Int×(List Int)×(List Int)×(List Int))) (τ:=((List Int)×(List Int)×(List Int))⊕((Option zau)×Bool×(List Int)×(List Int)×(List Int))) (λs110=>
cond (decide (s110.2.1<(zl way))) (Zb (idx way s110.2.1) λx113=>
Zb (zbL p x113.1) λy115=>
cond (y115.2 !=0) (some (.inr (.inr ((none:Option zau),false,s110.2.2.2.2,s110.2.2.2.1,s110.2.2.1)))) (Zb (idx p.2.1 x113.1) λx117=>
cond (x113.2.1) (Zb (zcL 8 s110.2.2.2.2 ([(w64 (s110.1+y115.1))])) λx126=>
Zb (zcL 8 s110.2.2.2.1 ([x117.2.2.2.1])) λx128=>
Zb (zcL 8 s110.2.2.1 ([(w64 (0-x117.2.2.2.2.1))])) λx130=>
some (.inl ((w64 (s110.1+y115.1)),(w64 (s110.2.1+1)),x130,x128,x126))) (Zb (zcL 8 s110.2.2.2.2 ([(w64 (s110.1+y115.1))])) λx138=>
Zb (zcL 8 s110.2.2.2.1 ([x117.2.2.2.1])) λx140=>
Zb (zcL 8 s110.2.2.1 ([x117.2.2.2.2.1])) λx142=>
some (.inl ((w64 (s110.1+y115.1)),(w64 (s110.2.1+1)),x142,x140,x138))))) (some (.inr (.inl (s110.2.2.2.2,s110.2.2.2.1,s110.2.2.1))))) big (0,0,[],[],[])=some (.inl (zgf p way,znp p way,znq p way)):=by
  have hn:=hw.n;have key:∀ (k i:Nat),i+k=way.length->Lp (σ:=(Int×Int×(List Int)×(List Int)×(List Int))) (τ:=((List Int)×(List Int)×(List Int))⊕((Option zau)×Bool×(List Int)×(List Int)×(List Int))) (λs110=>
cond (decide (s110.2.1<(zl way))) (Zb (idx way s110.2.1) λx113=>
Zb (zbL p x113.1) λy115=>
cond (y115.2 !=0) (some (.inr (.inr ((none:Option zau),false,s110.2.2.2.2,s110.2.2.2.1,s110.2.2.1)))) (Zb (idx p.2.1 x113.1) λx117=>
cond (x113.2.1) (Zb (zcL 8 s110.2.2.2.2 ([(w64 (s110.1+y115.1))])) λx126=>
Zb (zcL 8 s110.2.2.2.1 ([x117.2.2.2.1])) λx128=>
Zb (zcL 8 s110.2.2.1 ([(w64 (0-x117.2.2.2.2.1))])) λx130=>
some (.inl ((w64 (s110.1+y115.1)),(w64 (s110.2.1+1)),x130,x128,x126))) (Zb (zcL 8 s110.2.2.2.2 ([(w64 (s110.1+y115.1))])) λx138=>
Zb (zcL 8 s110.2.2.2.1 ([x117.2.2.2.1])) λx140=>
Zb (zcL 8 s110.2.2.1 ([x117.2.2.2.2.1])) λx142=>
some (.inl ((w64 (s110.1+y115.1)),(w64 (s110.2.1+1)),x142,x140,x138))))) (some (.inr (.inl (s110.2.2.2.2,s110.2.2.2.1,s110.2.2.1))))) k (zbc p way i,(i:Int),rlN i (zg7 p way),rlN i (zkG p way),rlN i (λj=>zbc p way (j+1))) (.inl (zgf p way,znp p way,znq p way)):=by
    intro k;induction k with
    | zero=>
      intro i hi;have:i=way.length:=by omega
      subst this;refine Lp.done ?_;simp only [zV,cond_false];rfl
    | succ k ih=>
      intro i hi;have hil:i<way.length:=by omega
      have hb:=zhn hp hw (i:=i) (by omega);have hb1:=zhn hp hw (i:=i+1) (by omega);have hsx:=zhm p way i;have hml:mvl p way i=zje p (way.getD i M0).1:=rfl;have hwe:w64 (zbc p way i+zje p (way.getD i M0).1)=zbc p way (i+1):=by
        rw [← hml,← hsx,zk (by omega) (by omega)]
      obtain ⟨_,hs,hr⟩:=zmd hp hw hil;have hh:zqb p ((way.getD i M0).1,false,())=true:=zjv.2 (hw.m i hil);have hlen:zbL p (way.getD i M0).1=some (zje p (way.getD i M0).1,0):=by
        rw [zrN,hv,hh]; rfl
      refine Lp.step ?_ (ih (i+1) (by omega));have a1:∀ (f:Nat->Int) (v:Int),v=f i->zcL 8 (rlN i f) [v]=some (rlN (i+1) f):=λf v hvf=>by
        rw [za8 (by simp only [zfF,List.length_singleton]; omega),zjx,hvf]
      have z0:((0:Int)!=0)=false:=rfl;simp only [zM hil,cond_true,zy M0 hil,Zs,hlen,z0,cond_false,hr,hwe,zG (show i<9223372036854775807 by omega)];have a2:=a1 (λj=>zbc p way (j+1)) (zbc p way (i+1)) rfl;have a3:=a1 (zkG p way) (zhy p way i).2.2.2.1 rfl;simp only [a2,a3,Zs];unfold zg7 at hs;cases hrv:(way.getD i M0).2.1 with
      | true=>
        rw [hrv] at hs;simp only [if_true] at hs;have e:w64 (0-(zhy p way i).2.2.2.2.1)=zg7 p way i:=by
          unfold zg7;rw [hrv,zk (by omega) (by omega),Int.zero_sub]; rfl
        simp only [a1 (zg7 p way) _ e,Zs,cond_true,cond_false]
      | false=>
        have e:(zhy p way i).2.2.2.2.1=zg7 p way i:=by
          unfold zg7;rw [hrv]; rfl
        simp only [a1 (zg7 p way) _ e,Zs,cond_true,cond_false]
  have hL:=(key way.length 0 (by omega)).big (by simp only [big]; omega);exact hL
theorem zpc (p:Plan) (way:List zR) (t:Train) (st:Int) (stops:List Int) (hwl:way.length<=9223372036854775807) (hsl:stops.length<=9223372036854775807):zdE p way t st stops=some (if zgi p way t st stops then (some (zil p way t st stops),true) else (none,false)):=by
 unfold zdE zgi;rw [zrr,Zs,zi8 p hwl,Zs];cases hv:zbe p with
 | false=>
  simp only [Bool.false_and,Bool.false_eq_true,if_false];cases (trB t&&inB st 0 (t.2.2.2.2.2.2.2.2.2.1.length-1))<;>rfl
 | true=>
 cases hwy:zkA p way with
 | false=>
  simp only [Bool.true_and,Bool.false_and,Bool.and_false,Bool.false_eq_true,if_false];cases (trB t&&inB st 0 (t.2.2.2.2.2.2.2.2.2.1.length-1))<;>rfl
 | true=>
 cases htr:trB t with
 | false=>rfl
 | true=>
 cases hin:inB st 0 (t.2.2.2.2.2.2.2.2.2.1.length-1) with
 | false=>rfl
 | true=>
 have hp:=zeG hv;have hw:=ziP hwy;simp only [Bool.true_and,if_true,Bool.not_true,cond_false,show ((0:Int)!=0)=false from rfl,mwithin,Zs];cases hln:inB (zl stops) 2 100 with
 | false=>rfl
 | true=>
 have hl:=zay.1 hln;rw [zx] at hl;have hl:2<=stops.length/\stops.length<=100:=by omega
 have h0:idx stops 0=some (zcR stops 0):=zy (i:=0) 0 (by omega);simp only [Bool.not_true,cond_false,h0,Zs,zrV hl,Bool.true_and];cases decide (zcR stops 0<t.2.1) with
 | true=>rfl
 | false=>
 simp only [cond_false,Zs,Bool.not_false,Bool.true_and];by_cases hgt:zcR stops (stops.length-1)>wlS p way
 . rw [decide_eq_true hgt,decide_eq_false (show ¬ zcR stops (stops.length-1)<=wlS p way by omega),Bool.and_false]; rfl
 . rw [decide_eq_false hgt,decide_eq_true (show zcR stops (stops.length-1)<=wlS p way by omega),Bool.and_true,cond_false];rw [zpb (τ:=Unit⊕((Option zau)×Bool)) hl (.inr (none,false)) (.inl ()) (λs=>rfl),Zs];cases zxN stops with
   | false=>rfl
   | true=>
    simp only [if_true,zbC,Zs];have hB:=ztX (t:=t) hv hp hw;exact congrArg (λo=>Zb o λt144:((List Int)×(List Int)×(List Int))⊕((Option zau)×Bool×(List Int)×(List Int)×(List Int))=>alt (λb146=>some ((some ((t,st,()),way,b146.1,b146.2.1,b146.2.2,stops,())),true)) (λb147=>some (b147.1,b147.2.1)) t144) hB
theorem zrW (p:Plan) (way:List zR) (t:Train) (st:Int) (stops:List Int) (hwl:way.length<=9223372036854775807) (hsl:stops.length<=9223372036854775807):zei p way t st stops=some (zgi p way t st stops):=by
 unfold zei zgi;rw [znj,Zs];cases hv:zbe p with
 | false=>rfl
 | true=>
 have hp:=zeG hv;rw [zrK hp hwl,Zs];cases hwy:zkA p way with
 | false=>rfl
 | true=>
 have hw:=ziP hwy;rw [zty,Zs];cases htr:trB t with
 | false=>rfl
 | true=>
 have ht:=zog.1 htr;simp only [Bool.not_true,cond_false,Zs,rin,wlen ht,Bool.true_and];cases hin:inB st 0 (t.2.2.2.2.2.2.2.2.2.1.length-1) with
 | false=>rfl
 | true=>
 simp only [Bool.not_true,cond_false,Zs,Bool.true_and];cases hln:inB (zl stops) 2 100 with
 | false=>rfl
 | true=>
 have hl:=zay.1 hln;rw [zx] at hl;have hl:2<=stops.length/\stops.length<=100:=by omega
 have h0:idx stops 0=some (zcR stops 0):=zy (i:=0) 0 (by omega);simp only [Bool.not_true,cond_false,h0,Zs,zrV hl,Bool.true_and];cases decide (zcR stops 0<t.2.1) with
 | true=>rfl
 | false=>
 simp only [cond_false,Zs,Bool.not_false,Bool.true_and];rw [zpb (τ:=Unit⊕Bool) hl (.inr false) (.inl ()) (λs=>rfl),Zs];cases zxN stops with
 | false=>rfl
 | true=>
  simp only [if_true,zbC,Zs,zur hp hw,Bool.true_and]
end Go.Ai.Sx