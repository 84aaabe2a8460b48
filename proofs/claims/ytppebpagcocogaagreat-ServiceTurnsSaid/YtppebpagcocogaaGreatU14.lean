/- Tracks: which moves follow; ways and their lengths. -/
import Derived.Test.YtppebpagcocogaaGreatU13
set_option linter.unusedSimpArgs false
set_option linter.unusedVariables false
set_option linter.unusedSectionVars false
namespace Go.Ai.Sx
open Option renaming bind->Zb,bind_some->Zs
def ziJ (m:zH):zk:=(m.1,!m.2.1,())
def zbK (p:Plan) (m:zH):zb4:=nd p (atS p (ziJ m))
def znh (p:Plan) (m:zH):Int:=((zbK p m).2.2.1.idxOf (ziJ m):Nat)
def zde (p:Plan) (m k:zH):Bool:=(zbK p m).2.2.1.zipIdx.any λy=>zio (zbK p m) (znh p m) (y.2:Int)&&y.1==k
def zsp (e:zk):Int:=if e.2.1 then 2*e.1+1 else 2*e.1
def zpU (n:Int):zH:=(n/2,n%2==1,())
theorem zoN {e:zk} (h:0<=e.1):zpU (zsp e)=e:=by
 obtain ⟨r,b,⟨⟩⟩:=e;unfold zpU zsp;simp only [] at h;cases b with
 | false=>
  simp only [Bool.false_eq_true,if_false];rw [show 2*r/2=r by omega,show 2*r%2=0 by omega]; rfl
 | true=>
  simp only [if_true];rw [show (2*r+1)/2=r by omega,show (2*r+1)%2=1 by omega]; rfl
theorem zrt {e:zk} (h:0<=e.1/\e.1<1000):zdl (e.1,e.2.1,())=some (zsp e):=by
 unfold zdl zsp;simp only [];cases e.2.1 with
 | false=>
  simp only [cond_false,Bool.false_eq_true,if_false];rw [ze (by omega) (by omega)]
 | true=>
  simp only [cond_true,if_true];rw [ze (n:=2*e.1) (by omega) (by omega),ze (by omega) (by omega)]
theorem zwo {n:Int} (h:0<=n/\n<10000):zeA n=some (zpU n):=by
 unfold zeA;rw [zb5 (by omega) (by omega),Zs];unfold zps;rw [if_neg (by omega),Zs,Int.tmod_eq_emod_of_nonneg h.1];rfl
section
variable {p:Plan} (hp:zim p) {m:zH} (hm:0<=m.1/\m.1<p.2.1.length)
include hp hm
theorem zmZ:0<=atS p (ziJ m)/\atS p (ziJ m)<p.1.length:=hp.at_bd (e:=ziJ m) hm
theorem zj0:nodeB (zbK p m)=true:=hp.nodeB (zmZ hp hm)
theorem zn1:ziJ m∈(zbK p m).2.2.1:=hp.mem (e:=ziJ m) hm
theorem zuC:0<=znh p m/\znh p m<(zbK p m).2.2.1.length/\znh p m<=10:=by
 have h1:=List.idxOf_lt_length_iff.2 (zn1 hp hm);have h2:=zeF (zj0 hp hm);unfold znh;omega
theorem zi3 {e:zk} (he:e∈(zbK p m).2.2.1):0<=e.1/\e.1<p.2.1.length:=by
 have hb:=zmZ hp hm;have h:=hp.at_ (atS p (ziJ m)).toNat (by omega);unfold zbK at he;rw [hp.nd_eq hb] at he;exact (h e he).1
theorem zru:mget (plS p) (ziJ m)=some (znh p m):=by
 have hb:=zmZ hp hm;have h1:=List.idxOf_lt_length_iff.2 (zn1 hp hm);have hn:zbK p m=p.1[(atS p (ziJ m)).toNat]'(by omega):=hp.nd_eq hb;have h2:=zwl hp (i:=(atS p (ziJ m)).toNat) (k:=(zbK p m).2.2.1.idxOf (ziJ m)) (by omega) (by rw [← hn]; exact h1);have h3:(p.1[(atS p (ziJ m)).toNat]'(by omega)).2.2.1[(zbK p m).2.2.1.idxOf (ziJ m)]'(by rw [← hn]; exact h1)=ziJ m:=by
  simp only [← hn];exact List.getElem_idxOf h1
 rw [h3] at h2;exact h2
def zlP (p:Plan) (m:zH):List Int:=((zbK p m).2.2.1.zipIdx.filter λy=>zio (zbK p m) (znh p m) (y.2:Int)).map λy=>zsp y.1
omit hm hp in
theorem zrv:(zlP p m).length<=(zbK p m).2.2.1.length:=by
 unfold zlP;rw [List.length_map];have:=List.length_filter_le (λy:zk×Nat=>zio (zbK p m) (znh p m) (y.2:Int)) (zbK p m).2.2.1.zipIdx;rw [List.length_zipIdx] at this;exact this
theorem ztT {n:Int} (h:n∈zlP p m):0<=n/\n<10000:=by
 unfold zlP at h;obtain ⟨y,hy,rfl⟩:=List.mem_map.1 h;have h1:=(List.mem_filter.1 hy).1;have h2:=zi3 hp hm (e:=y.1) (List.fst_mem_of_mem_zipIdx h1);have hR:=hp.r;unfold zsp;split<;>omega
theorem zrw:iter (σ:=((List Int)×Int)) (τ:=(List Int)) (λs20=>
cond (decide (s20.2<(zq (zbK p m).2.2.1))) (Zb (idx (zbK p m).2.2.1 s20.2) λx23=>
Zb (zdU m) λy27=>
Zb (zbb ((zbK p m,()):zax) ((mget (zn0 p).2.2.1 y27).getD 0) s20.2) λy28=>
cond (y28) (Zb (zdl ((x23.1,x23.2.1,()):zH)) λy30=>
Zb (zda 8 s20.1 ([y30])) λx31=>
some (.inl (x31,(w64 (s20.2+1))))) (some (.inl (s20.1,(w64 (s20.2+1)))))) (some (.inr s20.1))) big ([],0)=some (zlP p m):=by
 have hR:=hp.r;have hes:=zeF (zj0 hp hm);have hpb:=zuC hp hm;rw [zcv (s0:=(([]:List Int),(0:Int))) (zbK p m).2.2.1 (λk c=>(c,(k:Int))) (λk c e=>(.inl (if zio (zbK p m) (znh p m) (k:Int) then c++[zsp e] else c):List Int⊕List Int)) id (λk c=>c.length<=k) [] rfl (by omega) (by simp)]
 ·rw [zjU (λk c e=>if zio (zbK p m) (znh p m) (k:Int) then c++[zsp e] else c) id];unfold zlP;have key:∀ (L:List (zk×Nat)) (c:List Int),L.foldl (λc y=>if zio (zbK p m) (znh p m) (y.2:Int) then c++[zsp y.1] else c) c=c++(L.filter λy=>zio (zbK p m) (znh p m) (y.2:Int)).map λy=>zsp y.1:=by
   intro L;induction L with
   | nil=>intro c; simp
   | cons y L ih=>
    intro c;rw [List.foldl_cons,ih,List.filter_cons];cases zio (zbK p m) (znh p m) (y.2:Int) with
    | true=>simp
    | false=>simp
  rw [key,List.nil_append]; rfl
 ·intro k hk c hc;simp only [];refine ⟨?_,λb' hb=>?_⟩
  ·have he:=zi3 hp hm (List.getElem_mem hk);rw [zM hk,cond_true,zbD hk,Zs];show Zb (some (ziJ m)) _=_;rw [Zs];have hpl:(zn0 p).2.2.1=plS p:=rfl;rw [hpl,zru hp hm,Option.getD_some,zwn (zj0 hp hm) ⟨hpb.1,hpb.2.2⟩ (by omega),Zs,zrt (e:=(zbK p m).2.2.1[k]) ⟨he.1,by omega⟩,Zs,zaQ (by simp only [List.length_singleton]; omega),Zs,zx (by omega)];cases zio (zbK p m) (znh p m) (k:Int)<;>rfl
  ·cases hb;split
   ·rw [List.length_append,List.length_singleton]; omega
   ·omega
 ·intro c _;simp only [];rw [zW,cond_false]; rfl
theorem zpG (k:zH):zaM (zn0 p) m k=some (zde p m k):=by
  have hb:=zmZ hp hm;have hes:=zeF (zj0 hp hm);have hlen:=zrv (p:=p) (m:=m);obtain ⟨ys,hy,hperm⟩:=zrr (xs:=zlP p m) (by omega);unfold zaM zcm zbo;rw [Zs];simp only [];show Zb (Zb (some (ziJ m)) _) _=_;rw [Zs];have hend:=(zhQ (p:=(zn0 p).1) (e:=ziJ m) hm).1;have hpl:atS (zn0 p).1 (ziJ m)=atS p (ziJ m):=rfl;rw [hend,Zs,hpl];have hn:idx (zn0 p).1.1 (atS p (ziJ m))=some (zbK p m):=zdv (l:=p.1) (d:=N0) hb.1 hb.2;rw [hn,Zs,zrw hp hm,Zs,hy,Zs];have hys:∀ n∈ys,0<=n/\n<10000:=λn h=>ztT hp hm (hperm.mem_iff.1 h);have hyl:ys.length<=4:=by have:=hperm.length_eq; omega
  have key:iter (σ:=(Int×(Bool⊕Bool))) (τ:=(Bool⊕Bool)⊕(Bool⊕Bool)) (λs50=>
cond (decide (s50.1<(zq ys))) (Zb (idx ys s50.1) λx53=>
Zb (zeA x53) λy54=>
Zb (goL s50.2) λs55=>
Zb (cond (y54==k) (some (.inr true)) (some (.inl s55))) λy56=>
cond (!(y56).isLeft) (some (.inr (.inr y56))) (some (.inl ((w64 (s50.1+1)),y56)))) (some (.inr (.inl s50.2)))) big (0,(.inl false))=some (if ys.any (λn=>zpU n==k) then .inr (.inr true) else .inl (.inl false)):=by
    rw [zcv (s0:=((0:Int),(Sum.inl false:Bool⊕Bool))) ys (λi (_:Unit)=>((i:Int),(Sum.inl false:Bool⊕Bool))) (λ_ _ n=>if zpU n==k then .inr (.inr (.inr true)) else .inl ()) (λ_=>.inl (.inl false)) (λ_ _=>True) () rfl (by omega) trivial]
    · congr 1;have:∀ (l:List Int) (i:Nat),zeS (λ_ (_:Unit) n=>if zpU n==k then .inr (.inr (.inr true)) else .inl ()) (λ_=>.inl (.inl false)) l i ()=(if l.any (λn=>zpU n==k) then .inr (.inr true) else .inl (.inl false):(Bool⊕Bool)⊕(Bool⊕Bool)):=by
        intro l;induction l with
        | nil=>intro i; rfl
        | cons n l ih=>
          intro i;rw [zeS,List.any_cons];cases h:(zpU n==k) with
          | true=>rfl
          | false=>
            simp only [Bool.false_eq_true,if_false,Bool.false_or];exact ih (i+1)
      exact this ys 0
    · intro i hi _ _;refine ⟨?_,λ_ _=>trivial⟩;simp only [];rw [zM hi,cond_true,zbD hi,Zs,zwo (hys _ (List.getElem_mem hi)),Zs,zx (by omega)];cases (zpU ys[i]==k)<;>rfl
    · intro _ _;simp only [];rw [zW,cond_false]
  rw [key];have hany:ys.any (λn=>zpU n==k)=zde p m k:=by
    have h1:ys.any (λn=>zpU n==k)=(zlP p m).any (λn=>zpU n==k):=by
      rw [Bool.eq_iff_iff,List.any_eq_true,List.any_eq_true];constructor
      · rintro ⟨n,h,q⟩; exact ⟨n,hperm.mem_iff.1 h,q⟩
      · rintro ⟨n,h,q⟩; exact ⟨n,hperm.mem_iff.2 h,q⟩
    rw [h1];unfold zlP zde;rw [Bool.eq_iff_iff,List.any_eq_true,List.any_eq_true];constructor
    · rintro ⟨n,h,q⟩
      obtain ⟨y,hy,rfl⟩:=List.mem_map.1 h;obtain ⟨hy1,hy2⟩:=List.mem_filter.1 hy;rw [zoN (zi3 hp hm (List.fst_mem_of_mem_zipIdx hy1)).1] at q;exact ⟨y,hy1,by rw [hy2,q]; rfl⟩
    · rintro ⟨y,h,q⟩
      rw [Bool.and_eq_true] at q;refine ⟨zsp y.1,List.mem_map.2 ⟨y,List.mem_filter.2 ⟨h,q.1⟩,rfl⟩, ?_⟩;rw [zoN (zi3 hp hm (List.fst_mem_of_mem_zipIdx h)).1];exact q.2
  rw [hany];cases zde p m k<;>rfl
omit hp hm in
theorem zm0 (n:zb4) (e:zk) (hl:n.2.2.1.length<=1000):zdc n e=some (if e∈n.2.2.1 then ((n.2.2.1.idxOf e:Nat):Int) else -1):=by
  unfold zdc;have key:∀ (k i:Nat),i+k=n.2.2.1.length->Lp (λs5:Int=>
cond (decide (s5<(zq n.2.2.1))) (Zb (idx n.2.2.1 s5) λx9=>
cond (x9==e) (some (Sum.inr (Sum.inr s5:Unit⊕Int))) (some (.inl (w64 (s5+1))))) (some (.inr (.inl ())))) k (i:Int) (if e∈n.2.2.1.drop i then .inr ((i+(n.2.2.1.drop i).idxOf e:Nat):Int) else .inl ()):=by
    intro k;induction k with
    | zero=>
      intro i hi;have:i=n.2.2.1.length:=by omega
      subst this;rw [List.drop_length,if_neg (by simp)];exact Lp.done (by simp only [zW,cond_false])
    | succ k ih=>
      intro i hi;have hlt:i<n.2.2.1.length:=by omega
      rw [List.drop_eq_getElem_cons hlt];by_cases hx:n.2.2.1[i]=e
      · rw [if_pos (by rw [hx]; exact List.mem_cons_self),hx,List.idxOf_cons_self];refine Lp.done ?_;rw [zM hlt,cond_true,zbD hlt,Zs,hx,beq_self_eq_true]; rfl
      · have hb:(n.2.2.1[i]==e)=false:=by simpa using hx
        have h2:=ih (i+1) (by omega);have hmem:(e∈n.2.2.1[i]::n.2.2.1.drop (i+1))↔e∈n.2.2.1.drop (i+1):=by
          rw [List.mem_cons];exact ⟨λh=>h.resolve_left (λq=>hx q.symm),.inr⟩
        have hix:(n.2.2.1[i]::n.2.2.1.drop (i+1)).idxOf e=(n.2.2.1.drop (i+1)).idxOf e+1:=by rw [List.idxOf_cons,hb,cond_false]
        rw [hix];have e2:(if e∈n.2.2.1[i]::n.2.2.1.drop (i+1) then (Sum.inr ((i+((n.2.2.1.drop (i+1)).idxOf e+1):Nat):Int):Unit⊕Int) else .inl ())=if e∈n.2.2.1.drop (i+1) then .inr ((i+1+(n.2.2.1.drop (i+1)).idxOf e:Nat):Int) else .inl ():=by
          by_cases q:e∈n.2.2.1.drop (i+1)
          · rw [if_pos (hmem.2 q),if_pos q,show i+((n.2.2.1.drop (i+1)).idxOf e+1)=i+1+(n.2.2.1.drop (i+1)).idxOf e by omega]
          · rw [if_neg (λw=>q (hmem.1 w)),if_neg q]
        rw [e2];refine Lp.step (s':=((i+1:Nat):Int)) ?_ h2;rw [zM hlt,cond_true,zbD hlt,Zs,hb,cond_false,zx (by omega)]
  have h0:=key n.2.2.1.length 0 (by omega);rw [show ((0:Nat):Int)=0 from rfl,List.drop_zero] at h0;rw [h0.big (by simp only [big]; omega),Zs];by_cases q:e∈n.2.2.1
  · rw [if_pos q,if_pos q,zjT,Nat.zero_add]
  · rw [if_neg q,if_neg q,zby]
theorem zn2 (k:zH):zcq p m k=some (zde p m k):=by
 have hb:=zmZ hp hm;have hok:=zj0 hp hm;have hes:=zeF hok;have hpb:=zuC hp hm;unfold zcq;show Zb (some (ziJ m)) _=_;rw [Zs,(zhQ (p:=p) (e:=ziJ m) hm).2,Zs];have hn:idx p.1 (atS p (ziJ m))=some (zbK p m):=zdv (l:=p.1) (d:=N0) hb.1 hb.2;rw [hn,Zs];show Zb (some (ziJ m)) _=_;rw [Zs,zm0 _ _ (by omega),if_pos (zn1 hp hm),Zs];show Zb (some (k:zk)) _=_;rw [Zs,zm0 _ _ (by omega)];have hpos:(((zbK p m).2.2.1.idxOf (ziJ m):Nat):Int)=znh p m:=rfl;rw [hpos,decide_eq_true (show znh p m>=0 from hpb.1)];simp only [cond_true,Zs];have hndp:(zbK p m).2.2.1.Nodup:=hp.ndn hb;by_cases hk:(k:zk)∈(zbK p m).2.2.1
 . have hlt:=List.idxOf_lt_length_iff.2 hk;rw [if_pos hk,decide_eq_true (Int.natCast_nonneg _),cond_true,ztS _ ⟨hpb.1,hpb.2.2⟩ (by omega)];simp only [Zs];congr 1;unfold zde;rw [Bool.eq_iff_iff,List.any_eq_true];constructor
   . intro h;refine ⟨((k:zk),(zbK p m).2.2.1.idxOf k),List.mem_zipIdx_iff_getElem?.2 (by rw [List.getElem?_eq_getElem hlt,List.getElem_idxOf]), ?_⟩;rw [Bool.and_eq_true];exact ⟨h,by simp⟩
   . rintro ⟨⟨e,j⟩,h1,h2⟩
     rw [Bool.and_eq_true,beq_iff_eq] at h2;obtain ⟨h2,h3⟩:=h2;simp only [] at h2 h3;subst h3;have hj:=List.mem_zipIdx_iff_getElem?.1 h1;obtain ⟨hj1,hj2⟩:=List.getElem?_eq_some_iff.1 hj;have:(zbK p m).2.2.1.idxOf e=j:=by
      have h4:=List.getElem_idxOf hlt;exact (List.getElem_inj hndp).1 (h4.trans hj2.symm)
     rw [this];exact h2
 . rw [if_neg hk];have:zde p m k=false:=by
    unfold zde;rw [List.any_eq_false]
    rintro ⟨e,j⟩ h1 h2
    rw [Bool.and_eq_true,beq_iff_eq] at h2;exact hk (h2.2▸List.fst_mem_of_mem_zipIdx h1)
   rw [this];rfl
end
end Go.Ai.Sx
/- Tracks: ways and their lengths,in the program and in the reference. -/
namespace Go.Ai.Sx
open Option renaming bind->Zb,bind_some->Zs
def zpV (p:Plan) (m:zH):Bool:=inB m.1 0 (p.2.1.length-1)
def M0:zH:=(0,false,())
def zj1 (p:Plan) (l:List zH) (i:Nat):Bool:=zpV p (l.getD i M0)&&(decide (i=0)||zde p (l.getD (i-1) M0) (l.getD i M0))
def zkb (p:Plan) (l:List zH):Bool:=(List.range l.length).all (zj1 p l)&&inB (zq l) 1 2000
def wlS (p:Plan) (l:List zH):Int:=zhY (λi=>zg7 p (l.getD i M0).1) 0 l.length
theorem zi4 {p:Plan} {m:zH}:zpV p m=true↔0<=m.1/\m.1<p.2.1.length:=by
 unfold zpV;rw [zal];omega
section
variable {p:Plan} (hp:zim p)
include hp
theorem zlQ {l:List zH} (hl:l.length<=9223372036854775807) {has:zH->Option Bool} {fol:zH->zH->Option Bool} (hh:∀ m,has m=some (zpV p m)) (hf:∀ m k:zH,0<=m.1/\m.1<(p.2.1.length:Int)->fol m k=some (zde p m k))
    {F:Int->Option (Int⊕(Unit⊕Bool))} (hF:∀ (i:Nat) (_:i<l.length),F i=Zb (has (l.getD i M0)) λy37=>cond (!y37) (some (.inr (.inr false))) (cond (decide ((i:Int)>0)) (Zb (fol (l.getD (i-1) M0) (l.getD i M0)) λy42=>cond (!y42) (some (.inr (.inr false))) (some (.inl (w64 ((i:Int)+1))))) (some (.inl (w64 ((i:Int)+1))))))
    (he:F l.length=some (.inr (.inl ()))):∀ (k i:Nat),i+k=l.length->(∀ j,j<i->zpV p (l.getD j M0)=true)->Lp F k (i:Int) (if (List.range' i k).all (zj1 p l) then .inl () else .inr false)
  | 0,i,hi,_=>by
    have:i=l.length:=by omega
    subst this;exact Lp.done he
  | k+1,i,hi,hj=>by
    have hlt:i<l.length:=by omega
    rw [List.range'_succ,List.all_cons];cases hs:zpV p (l.getD i M0) with
    | false=>
      have:zj1 p l i=false:=by unfold zj1; rw [hs]; rfl
      rw [this];refine Lp.done ?_;rw [hF i hlt,hh,hs]; rfl
    | true=>
      have hj':∀ j,j<i+1->zpV p (l.getD j M0)=true:=λj h=>by
        by_cases e:j=i
        · rw [e]; exact hs
        · exact hj j (by omega)
      have ih:=zlQ hl hh hf hF he k (i+1) (by omega) hj';by_cases h0:i=0
      · subst h0;have:zj1 p l 0=true:=by unfold zj1; rw [hs]; rfl
        rw [this,Bool.true_and];refine Lp.step (s':=((0+1:Nat):Int)) ?_ ih;rw [hF 0 hlt,hh,hs]; rfl
      · have hw:zj1 p l i=zde p (l.getD (i-1) M0) (l.getD i M0):=by unfold zj1; rw [hs,decide_eq_false h0]; rfl
        rw [hw];have hprev:=zi4.1 (hj (i-1) (by omega));have hFi:F i=cond (!zde p (l.getD (i-1) M0) (l.getD i M0)) (some (.inr (.inr false))) (some (.inl ((i+1:Nat):Int))):=by
          rw [hF i hlt,hh,hs,decide_eq_true (show (i:Int)>0 by omega),hf _ _ hprev,zx (by omega)]; rfl
        cases hb:zde p (l.getD (i-1) M0) (l.getD i M0) with
        | false=>
          rw [hb] at hFi;rw [Bool.false_and];exact Lp.done hFi
        | true=>
          rw [hb] at hFi;rw [Bool.true_and];exact Lp.step hFi ih
theorem zuD (m:zH):zbt (zn0 p) m=some (zpV p m):=by
 unfold zbt;rw [twithin,Zs];have:w64 (zq (zn0 p).1.2.1-1)=p.2.1.length-1:=wrails hp.r;rw [this]; rfl
theorem ztU (m:zH):zeB p m=some (zpV p m):=by
 unfold zeB;rw [zrh,Zs,wrails hp.r]; rfl
theorem zwp {l:List zH} (hl:l.length<=9223372036854775807):zb1 (zn0 p) l=some (zkb p l):=by
  unfold zb1;have hL:=zlQ hp hl (λm=>zuD hp m) (λm k hm=>zpG hp hm k) (F:=λs22=>
cond (decide (s22<(zq l))) (Zb (idx l s22) λx25=>
Zb (zbt (zn0 p) x25) λy37=>
cond (!y37) (some (.inr (.inr false))) (cond (decide (s22>0)) (Zb (idx l (w64 (s22-1))) λx41=>
Zb (zaM (zn0 p) x41 x25) λy42=>
cond (!y42) (some (.inr (.inr false))) (some (.inl (w64 (s22+1))))) (some (.inl (w64 (s22+1)))))) (some (.inr (.inl ())))) (λi hi=>by
      rw [zM hi,cond_true,zz M0 hi,Zs];by_cases h0:i=0
      · subst h0; rfl
      · rw [decide_eq_true (show (i:Int)>0 by omega),ze (n:=(i:Int)-1) (by omega) (by omega),show (i:Int)-1=((i-1:Nat):Int) by omega,zz M0 (show i-1<l.length by omega)];rfl) (by simp only [zW,cond_false]) l.length 0 (by omega) (λj hj=>by omega)
  rw [show ((0:Nat):Int)=0 from rfl] at hL;rw [hL.big (by simp only [big]; omega),Zs,← List.range_eq_range'];unfold zkb;cases (List.range l.length).all (zj1 p l) with
  | false=>rfl
  | true=>simp only [if_true,zby,twithin]; rfl
theorem zrx {l:List zH} (hl:l.length<=9223372036854775807):zeg p l=some (zkb p l):=by
  unfold zeg;have hL:=zlQ hp hl (λm=>ztU hp m) (λm k hm=>zn2 hp hm k) (F:=λs26=>
cond (decide (s26<(zq l))) (Zb (idx l s26) λx43=>
Zb (zeB p x43) λy44=>
cond (!y44) (some (.inr (.inr false))) (cond (decide (s26>0)) (Zb (idx l (w64 (s26-1))) λx48=>
Zb (idx l s26) λx49=>
Zb (zcq p x48 x49) λy50=>
cond (!y50) (some (.inr (.inr false))) (some (.inl (w64 (s26+1))))) (some (.inl (w64 (s26+1)))))) (some (.inr (.inl ())))) (λi hi=>by
      rw [zM hi,cond_true,zz M0 hi,Zs];by_cases h0:i=0
      · subst h0; rfl
      · rw [decide_eq_true (show (i:Int)>0 by omega),ze (n:=(i:Int)-1) (by omega) (by omega),show (i:Int)-1=((i-1:Nat):Int) by omega,zz M0 (show i-1<l.length by omega)];rfl) (by simp only [zW,cond_false]) l.length 0 (by omega) (λj hj=>by omega)
  rw [show ((0:Nat):Int)=0 from rfl] at hL;rw [hL.big (by simp only [big]; omega),Zs,← List.range_eq_range'];unfold zkb;cases (List.range l.length).all (zj1 p l) with
  | false=>rfl
  | true=>simp only [if_true,zby,zrh]; rfl
structure zho (p:Plan) (l:List zH):Prop where
 n:1<=l.length/\l.length<=2000
 m:∀ i,i<l.length->0<=(l.getD i M0).1/\(l.getD i M0).1<p.2.1.length
omit hp in
theorem zhp {l:List zH} (h:zkb p l=true):zho p l:=by
 unfold zkb at h;rw [Bool.and_eq_true,zal,zw] at h;refine ⟨by omega,λi hi=>?_⟩;have:=List.all_eq_true.1 h.1 i (List.mem_range.2 hi);unfold zj1 at this;rw [Bool.and_eq_true] at this;exact zi4.1 this.1
theorem zj2 {i:Int} (hi:0<=i/\i<p.2.1.length):1<=zg7 p i/\zg7 p i<=31000000:=hp.len hi
theorem zAg {l:List zH} (h:zho p l):0<=wlS p l/\wlS p l<=31000000*l.length:=
 zil _ _ λi _ hi=>by have:=zj2 hp (h.m i (by omega)); omega
theorem zry {l:List zH} (h:zho p l) {lg:zH->Option Int} (hg:∀ m:zH,0<=m.1/\m.1<p.2.1.length->lg m=some (zg7 p m.1)):iter (σ:=(Int×Int)) (τ:=(Int)) (λs6=>
cond (decide (s6.2<(zq l))) (Zb (idx l s6.2) λx9=>
Zb (lg x9) λx12=>
some (.inl ((w64 (s6.1+x12)),(w64 (s6.2+1))))) (some (.inr s6.1))) big (0,0)=some (wlS p l):=by
  have hn:=h.n;have hL:=zlJ (B:=31000000) (N:=l.length) (f:=λi=>zg7 p (l.getD i M0).1) (F:=λs6:Int×Int=>
cond (decide (s6.2<(zq l))) (Zb (idx l s6.2) λx9=>
Zb (lg x9) λx12=>
some (.inl ((w64 (s6.1+x12)),(w64 (s6.2+1))))) (some (.inr s6.1))) (by omega) (by omega) (by omega) (λi hi=>by have:=zj2 hp (h.m i hi); omega) l.length 0 0 (by omega) (by omega) (by omega) (λi s _ hi=>by
      simp only [];rw [zM hi,cond_true,zz M0 hi,Zs,hg _ (h.m i hi),Zs]) (λs=>by simp only [zW,cond_false])
  rw [show ((0:Nat):Int)=0 from rfl,Int.zero_add] at hL;exact hL.big (by simp only [big]; omega)
theorem zrz {i:Int} (hi:0<=i/\i<p.2.1.length):idx (zn0 p).2.1 i=some (zg7 p i):=by
 show idx ((List.range p.2.1.length).map λi:Nat=>zg7 p (i:Int)) i=_;rw [zq7 hi.1 (by rw [List.length_map,List.length_range]; exact hi.2)];simp only [List.getElem_map,List.getElem_range];rw [Int.toNat_of_nonneg hi.1]
theorem zx4 {l:List zH} (h:zho p l):zaV (zn0 p) l=some (wlS p l):=by
 unfold zaV;rw [zry hp h (lg:=λx9=>idx (zn0 p).2.1 x9.1) (λm hm=>zrz hp hm)]; rfl
theorem ziq {i:Int} (hi:0<=i/\i<p.2.1.length):zaB p i=some (zg7 p i):=zpD hi (hp.ix hi) (hp.spots hi).1
theorem zuE {l:List zH} (h:zho p l):zbX p l=some (wlS p l):=by
 unfold zbX;rw [zry hp h (lg:=λx9=>zaB p x9.1) (λm hm=>ziq hp hm)]; rfl
end
theorem ziK (p:Plan) {l:List zH} (hl:l.length<=9223372036854775807):zbV p l=some (if zaH p&&zkb p l then (wlS p l,0) else (0,2)):=by
 unfold zbV;rw [zrs];cases hv:zaH p with
 | false=>rfl
 | true=>
  have hp:=zd1 hv;simp only [if_true,Zs,Bool.not_true,cond_false,zwp hp hl,Bool.true_and];cases hw:zkb p l with
  | false=>rfl
  | true=>
   simp only [Bool.not_true,cond_false,zx4 hp (zhp hw),if_true,Zs]
theorem zrA (p:Plan) (i:Int):zbS p i=some (if zaH p&&zpV p (i,false,()) then (zg7 p i,0) else (0,2)):=by
 unfold zbS;rw [zrs];cases hv:zaH p with
 | false=>rfl
 | true=>
  have hp:=zd1 hv;simp only [if_true,Zs,Bool.not_true,cond_false,zuD hp,Bool.true_and];cases hw:zpV p (i,false,()) with
  | false=>rfl
  | true=>
   have hi:=zi4.1 hw;simp only [Bool.not_true,cond_false,zrz hp hi,if_true,Zs]
end Go.Ai.Sx
/- Motion: looking for a place in a rising row. -/
namespace Go.Ai.Sx
open Option renaming bind->Zb,bind_some->Zs
theorem ztV (a b:Int):zaU a b=some (decide (a<b)):=by
 unfold zaU;simp only [za6,Zs,bne_self_eq_false,cond_false]
theorem ztW {a b:Int} (h:0<=a+b/\a+b<4611686018427387904):ziH .u64 (IntKind.u64.wrap (w64 (a+b))) 1=some ((a+b)/2)/\w64 ((a+b)/2)=(a+b)/2:=by
 have e1:w64 (a+b)=a+b:=ze (by omega) (by omega);have e2:IntKind.u64.wrap (a+b)=a+b:=by simp only [IntKind.wrap,IntKind.bits,IntKind.signed]; simp; omega
 rw [e1,e2];unfold ziH;rw [if_pos (by omega)];refine ⟨?_,ze (by omega) (by omega)⟩;congr 1;simp [IntKind.bits];rw [Int.fdiv_eq_ediv_of_nonneg _ (by omega)]
def Rising (xs:List Int):Prop:=∀ i j,i<j->j<xs.length->xs.getD i 0<xs.getD j 0
theorem bsearch {xs:List Int} (hr:Rising xs) (hl:xs.length<=1000000) (t:Int):∃ (i:Nat) (b:Bool),zI xs t=some ((i:Int),b)/\i<=xs.length/\(∀ j,j<i->xs.getD j 0<t)/\∀ j,i<=j->j<xs.length->t<=xs.getD j 0:=by
  have hT:Tot (λr:Int=>∃ i:Nat,r=(i:Int)/\i<=xs.length/\(∀ j,j<i->xs.getD j 0<t)/\∀ j,i<=j->j<xs.length->t<=xs.getD j 0) (iter (σ:=(Int×Int)) (τ:=(Int)) (λs6=>
cond (decide (s6.1<s6.2)) (Zb (ziH .u64 (IntKind.u64.wrap (w64 (s6.1+s6.2))) 1) λx9=>
Zb (idx xs (w64 x9)) λx10=>
Zb (zaU x10 t) λy11=>
cond (y11) (some (.inl ((w64 ((w64 x9)+1)),s6.2))) (some (.inl (s6.1,(w64 x9))))) (some (.inr s6.1))) big (0,(zq xs))):=by
    refine Tot.iter (λs:Int×Int=>∃ lo hi:Nat,s=((lo:Int),(hi:Int))/\lo<=hi/\hi<=xs.length/\(∀ j,j<lo->xs.getD j 0<t)/\∀ j,hi<=j->j<xs.length->t<=xs.getD j 0) _ (λs=>(s.2-s.1).toNat) ⟨0,xs.length,rfl,by omega,by omega,λj hj=>by omega,λj h1 h2=>by omega⟩ (by simp only [zw,big]; omega) ?_
    rintro s ⟨lo,hi,rfl,h1,h2,h3,h4⟩
    simp only [];by_cases hlt:lo<hi
    · obtain ⟨e1,e2⟩:=ztW (a:=(lo:Int)) (b:=(hi:Int)) ⟨by omega,by omega⟩;obtain ⟨m,hm⟩:∃ m:Nat,((lo:Int)+hi)/2=(m:Int):=⟨(((lo:Int)+hi)/2).toNat,by omega⟩;rw [decide_eq_true (show (lo:Int)<hi by omega),cond_true,e1,Zs,e2,hm,zz 0 (show m<xs.length by omega),Zs,ztV,Zs];by_cases hc:xs.getD m 0<t
      · rw [decide_eq_true hc,cond_true,zx (by omega)];refine Tot.some ⟨⟨m+1,hi,rfl,by omega,h2,λj hj=>?_,h4⟩,by simp only []; omega⟩;by_cases e:j=m
        · rw [e]; exact hc
        · have:=hr j m (by omega) (by omega); omega
      · rw [decide_eq_false hc,cond_false];refine Tot.some ⟨⟨lo,m,rfl,by omega,by omega,h3,λj hj hjl=>?_⟩,by simp only []; omega⟩;by_cases e:j=m
        · rw [e]; omega
        · have:=hr m j (by omega) hjl; omega
    · have:lo=hi:=by omega
      subst this;rw [decide_eq_false (by omega),cond_false];exact Tot.some ⟨lo,rfl,by omega,h3,h4⟩
  obtain ⟨r,h1,i,rfl,h2,h3,h4⟩:=hT;have hb:∃ b:Bool,zI xs t=some ((i:Int),b):=by
    unfold zI;rw [h1,Zs];by_cases hlt:i<xs.length
    · rw [zM hlt,cond_true,zz 0 hlt,Zs];cases (xs.getD i 0==t) with
      | true=>exact ⟨true,rfl⟩
      | false=>
        simp only [cond_false,zcP,Zs,bne_self_eq_false];exact ⟨false,rfl⟩
    · rw [decide_eq_false (show ¬ (i:Int)<zq xs by rw [zw]; omega)];exact ⟨false,rfl⟩
  obtain ⟨b,hb⟩:=hb;exact ⟨i,b,hb,h2,h3,h4⟩
section
variable (p:Plan) (way:List zH)
def mvl (i:Nat):Int:=zg7 p (way.getD i M0).1
def zbe (i:Nat):Int:=zhY (mvl p way) 0 i
def zg8 (i:Nat):Rail:=rl0 p (way.getD i M0).1
def zkj (i:Nat):Int:=(zg8 p way i).2.2.2.1
def zgD (i:Nat):Int:=if (way.getD i M0).2.1 then -(zg8 p way i).2.2.2.2.1 else (zg8 p way i).2.2.2.2.1
def zfS:List Int:=rlN way.length λi=>zbe p way (i+1)
def zm1:List Int:=rlN way.length (zkj p way)
def zm2:List Int:=rlN way.length (zgD p way)
end
theorem zm3 (f:Nat->Int):∀ (k a:Nat),zhY f a (k+1)=zhY f a k+f (a+k)
 | 0,a=>by simp [zhY]
 | k+1,a=>by
  rw [zhY,zm3 f k (a+1),zhY];rw [show a+1+k=a+(k+1) by omega];omega
theorem zgS (p:Plan) (way:List zH) (i:Nat):zbe p way (i+1)=zbe p way i+mvl p way i:=by
 unfold zbe;rw [zm3,Nat.zero_add]
theorem zgc {A:Type} (n:Nat) (f:Nat->A):(rlN n f).length=n:=by unfold rlN; simp
theorem zir {A:Type} {n:Nat} {f:Nat->A} {i:Nat} (d:A) (h:i<n):(rlN n f).getD i d=f i:=by
 unfold rlN;simp [List.getD,h]
section
variable {p:Plan} {way:List zH} (hp:zim p) (hw:zho p way)
include hp hw
theorem zrB {i:Nat} (hi:i<way.length):1<=mvl p way i/\mvl p way i<=31000000:=zj2 hp (hw.m i hi)
theorem zk0 {i j:Nat} (h:i<j) (hj:j<=way.length):zbe p way i<zbe p way j:=by
 induction j with
 | zero=>omega
 | succ j ih=>
  have h1:=zrB hp hw (i:=j) (by omega);rw [zgS];by_cases e:i=j
  . subst e; omega
  . have:=ih (by omega) (by omega); omega
theorem zgT {i:Nat} (hi:i<=way.length):0<=zbe p way i/\zbe p way i<=62000000000:=by
 have h1:=zil (f:=mvl p way) (B:=31000000) i 0 (λj _ hj=>by have:=zrB hp hw (i:=j) (by omega); omega);have:=hw.n;unfold zbe;omega
theorem zj3:Rising (zfS p way):=by
 intro i j h hj;unfold zfS at *
 rw [zgc] at hj;rw [zir 0 (by omega),zir 0 hj];exact zk0 hp hw (by omega) (by omega)
theorem zlR {i:Nat} (hi:i<way.length):(1<=zkj p way i/\zkj p way i<=50000)/\(-120<=zgD p way i/\zgD p way i<=120)/\idx p.2.1 (way.getD i M0).1=some (zg8 p way i):=by
 have hm:=hw.m i hi;have h1:=hp.rail hm;unfold zhP zlL at h1;simp only [Bool.and_eq_true,zal] at h1;obtain ⟨⟨_,_,_,h2,h3⟩,_⟩:=h1;refine ⟨h2, ?_,zdv hm.1 hm.2⟩;unfold zgD zg8;split<;>omega
end
def ixF (f:Nat->Bool):Nat->Nat->Nat
 | 0,i=>i
 | k+1,i=>if f i then i else ixF f k (i+1)
theorem zuF {f:Nat->Bool}:∀ {k i r:Nat},i<=r->r<=i+k->(∀ j,i<=j->j<r->f j=false)->(r<i+k->f r=true)->ixF f k i=r
 | 0,i,r,h1,h2,_,_=>by unfold ixF; omega
 | k+1,i,r,h1,h2,h3,h4=>by
  unfold ixF;by_cases e:i=r
  . subst e;rw [if_pos (h4 (by omega))]
  . rw [if_neg (by rw [h3 i (Nat.le_refl i) (by omega)]; simp)];exact zuF (by omega) (by omega) (λj h5 h6=>h3 j (by omega) h6) (λh5=>h4 (by omega))
def zx5 (p:Plan) (way:List zH) (f:Int):Nat:=ixF (λi=>decide (f<zbe p way (i+1))) (way.length-1) 0
def zeM (p:Plan) (way:List zH) (f:Int):Int:=zgD p way (zx5 p way f)
theorem zrC {p:Plan} {way:List zH} (h:1<=way.length) (f:Int):zx5 p way f<way.length:=by
 have key:∀ (g:Nat->Bool) (k i:Nat),ixF g k i<=i+k:=by
  intro g k;induction k with
  | zero=>intro i; exact Nat.le_refl _
  | succ k ih=>
   intro i;unfold ixF;split
   . omega
   . have:=ih (i+1); omega
 have:=key (λi=>decide (f<zbe p way (i+1))) (way.length-1) 0;unfold zx5;omega
def zi5 (p:Plan) (way:List zH) (t:Train) (st:Int) (stops:List Int):zav:=((t,st,()),way,zfS p way,zm1 p way,zm2 p way,stops,())
section
variable {p:Plan} {way:List zH} {t:Train} {st:Int} {stops:List Int} {x:zb} (hp:zim p) (hw:zho p way) (ht:zka t) (hx:zoE t x)
include hp hw ht hx
theorem zm4:0<=zA t x/\zA t x<=4000000000000000000:=by
 have hm:=ht.m;have h:=hx.w;unfold zA;have h1:0<=x.2.1/(10*t.1):=Int.ediv_nonneg h.1 (by omega);have h2:x.2.1/(10*t.1)<=x.2.1:=Int.ediv_le_self _ h.1;omega
theorem ztX:zaG (zi5 p way t st stops) x=some (zeM p way (zA t x)):=by
 have hn:=hw.n;have hpl:=zm4 hp hw ht hx;unfold zaG;show Zb (zY (t,st,()) x) _=_;rw [(zgA ht hx st).1,Zs];have e1:x.2.1/(10*t.1)=zA t x:=rfl;rw [e1,ze (n:=zA t x+1) (by omega) (by omega)];show Zb (zI (zfS p way) (zA t x+1)) _=_;have hel:(zfS p way).length=way.length:=by unfold zfS; rw [zgc]
 obtain ⟨i,b,h1,h2,h3,h4⟩:=bsearch (zj3 hp hw) (by omega) (zA t x+1);rw [h1,Zs];show Zb (idx (zm2 p way) (min (i:Int) (w64 (zq (zm2 p way)-1)))) _=_;have hsl:(zm2 p way).length=way.length:=by unfold zm2; rw [zgc]
 rw [zw,hsl,ze (by omega) (by omega)];have hge:∀ j,j<way.length->(zfS p way).getD j 0=zbe p way (j+1):=λj hj=>by unfold zfS; rw [zir 0 hj]
 have hix:zx5 p way (zA t x)=min i (way.length-1):=by
  unfold zx5;refine zuF (by omega) (by omega) (λj _ hj=>?_) (λhlt=>?_)
  . have:=h3 j (by omega);rw [hge j (by omega)] at this;exact decide_eq_false (by omega)
  . have:=h4 (min i (way.length-1)) (by omega) (by omega);rw [hge _ (by omega)] at this;exact decide_eq_true (by omega)
 have hmin:min (i:Int) ((way.length:Int)-1)=((min i (way.length-1):Nat):Int):=by omega
 rw [hmin,zz 0 (by omega),Zs,← hix];unfold zm2 zeM;rw [zir 0 (zrC hn.1 _)]
theorem zgU (f:Int):-120<=zeM p way f/\zeM p way f<=120:=(zlR hp hw (zrC hw.n.1 f)).2.1
end
end Go.Ai.Sx
/- Motion: a run's limit,and the reference's slope and limit. -/
namespace Go.Ai.Sx
open Option renaming bind->Zb,bind_some->Zs
def zm5 (g:Nat->Bool) (v:Nat->Int):Nat->Nat->Int->Int
 | 0,_,b=>b
 | k+1,i,b=>zm5 g v k (i+1) (if g i then min b (v i) else b)
theorem zi6 (g:Nat->Bool) (v:Nat->Int) (l:Nat):∀ (k i:Nat) (b:Int),zm5 g v (k+l) i b=zm5 g v l (i+k) (zm5 g v k i b)
 | 0,i,b=>by rw [Nat.zero_add]; rfl
 | k+1,i,b=>by
  rw [show k+1+l=(k+l)+1 by omega,zm5,zi6 g v l k (i+1),zm5,show i+1+k=i+(k+1) by omega]
theorem zlS {g:Nat->Bool} {v:Nat->Int}:∀ (k i:Nat) (b:Int),(∀ j,i<=j->j<i+k->g j=false)->zm5 g v k i b=b
 | 0,_,_,_=>rfl
 | k+1,i,b,h=>by
  rw [zm5,h i (Nat.le_refl i) (by omega)];exact zlS k (i+1) b λj h1 h2=>h j (by omega) (by omega)
def ovB (p:Plan) (way:List zH) (L f:Int) (i:Nat):Bool:=decide (f-L<zbe p way (i+1))&&(decide (zbe p way i<f)||decide (i=0))
def zl2 (p:Plan) (way:List zH) (t:Train) (f:Int):Int:=zm5 (ovB p way t.2.1 f) (zkj p way) way.length 0 t.2.2.1
section
variable {p:Plan} {way:List zH} {t:Train} {st:Int} {stops:List Int} {x:zb} (hp:zim p) (hw:zho p way) (ht:zka t)
include hp hw ht
theorem ztY {i j:Nat} (h:i<=j) (hj:j<=way.length):zbe p way i<=zbe p way j:=by
 by_cases e:i=j
 . subst e; omega
 . have:=zk0 hp hw (i:=i) (j:=j) (by omega) hj; omega
theorem ztZ (hx:zoE t x):zb9 (zi5 p way t st stops) x=some (zl2 p way t (zA t x)):=by
  have hn:=hw.n;have hl:=ht.len;have hpl:=zm4 hp hw ht hx;unfold zb9;show Zb (zY (t,st,()) x) _=_;rw [(zgA ht hx st).1,Zs];have e1:x.2.1/(10*t.1)=zA t x:=rfl;rw [e1];show Zb (zI (zfS p way) (w64 (w64 (zA t x-t.2.1)+1))) _=_;rw [ze (n:=zA t x-t.2.1) (by omega) (by omega),ze (n:=zA t x-t.2.1+1) (by omega) (by omega)];have hel:(zfS p way).length=way.length:=by unfold zfS; rw [zgc]
  have hll:(zm1 p way).length=way.length:=by unfold zm1; rw [zgc]
  have hge:∀ j,j<way.length->(zfS p way).getD j 0=zbe p way (j+1):=λj hj=>by unfold zfS; rw [zir 0 hj]
  have hgl:∀ j,j<way.length->(zm1 p way).getD j 0=zkj p way j:=λj hj=>by unfold zm1; rw [zir 0 hj]
  obtain ⟨i0,b,h1,h2,h3,h4⟩:=bsearch (zj3 hp hw) (by omega) (zA t x-t.2.1+1);rw [h1,Zs];have key:∀ (k i:Nat) (v:Int),i+k=way.length->i0<=i->(i=i0\/zbe p way i<zA t x) ->
      Lp (λs8:Int×Int=>
cond (decide (s8.2<(zq (zfS p way)))) (Zb (idx (zm1 p way) s8.2) λx11=>
Zb (idx (zfS p way) s8.2) λx12=>
cond (decide (x12>=zA t x)) (some (.inr (min s8.1 x11))) (some (.inl ((min s8.1 x11),(w64 (s8.2+1)))))) (some (.inr s8.1))) k (v,(i:Int)) (zm5 (ovB p way t.2.1 (zA t x)) (zkj p way) k i v):=by
    intro k;induction k with
    | zero=>
      intro i v hi _ _;refine Lp.done ?_;have:i=(zfS p way).length:=by omega
      subst this;simp only [zW,cond_false];rfl
    | succ k ih=>
      intro i v hi hle hor;have hil:i<way.length:=by omega
      have hov:ovB p way t.2.1 (zA t x) i=true:=by
        unfold ovB;have h5:=h4 i hle (by omega);rw [hge i hil] at h5;rw [decide_eq_true (by omega)];have h6:i=0\/zbe p way i<zA t x:=by
          rcases hor with rfl | h
          · by_cases e:i=0
            · exact .inl e
            · right;have h7:=h3 (i-1) (by omega);rw [hge (i-1) (by omega),show i-1+1=i by omega] at h7;omega
          · exact .inr h
        simp only [Bool.true_and,Bool.or_eq_true,decide_eq_true_eq];omega
      rw [zm5,if_pos hov];by_cases hc:zbe p way (i+1)>=zA t x
      · rw [zlS k (i+1) _ (λj h5 h6=>by
          have h7:=ztY hp hw ht (i:=i+1) (j:=j) h5 (by omega);unfold ovB;rw [decide_eq_false (show ¬ zbe p way j<zA t x by omega),decide_eq_false (show ¬ j=0 by omega)];simp)]
        refine Lp.done ?_;simp only [zM (show i<(zfS p way).length by omega),cond_true];rw [zz 0 (by omega),Zs,zz 0 (by omega),Zs,hge i hil,hgl i hil,decide_eq_true hc,cond_true]
      · refine Lp.step ?_ (ih (i+1) _ (by omega) (by omega) (.inr (by omega)));simp only [zM (show i<(zfS p way).length by omega),cond_true];rw [zz 0 (by omega),Zs,zz 0 (by omega),Zs,hge i hil,hgl i hil,decide_eq_false hc,cond_false,zx (by omega)]
  have hL:=key (way.length-i0) i0 t.2.2.1 (by omega) (Nat.le_refl _) (.inl rfl);have hR:zm5 (ovB p way t.2.1 (zA t x)) (zkj p way) (way.length-i0) i0 t.2.2.1=zl2 p way t (zA t x):=by
    unfold zl2;have hk:way.length=i0+(way.length-i0):=by omega
    rw [hk,zi6,zlS i0 0 _ (λj _ h6=>by
      have h7:=h3 j (by omega);rw [hge j (by omega)] at h7;unfold ovB;rw [decide_eq_false (by omega)];rfl),Nat.zero_add,← hk]
  rw [hR] at hL;have hB:=hL.big (by simp only [big]; omega);exact congrArg (λo=>Zb o λt14=>some t14) hB
theorem zfT {stop:Int} {f:Int} (hf:0<=f/\f<=4000000000000000000):za0 (p,way,t,st,stop,()) f=some (zeM p way f):=by
  have hn:=hw.n;unfold za0;have key:∀ (k i:Nat),i+k+1=way.length ->
      Lp (λs30:Int×Int=>
cond (decide (s30.2<(zq way))) (Zb (idx way s30.2) λx35=>
Zb (zaB p x35.1) λy36=>
cond (decide (f<(w64 (s30.1+y36)))) (Zb (idx way s30.2) λx40=>
cond (x40.2.1) (Zb (idx way s30.2) λx44=>
Zb (idx p.2.1 x44.1) λx45=>
some (.inr (.inr (w64 (0-x45.2.2.2.2.1))))) (Zb (idx way s30.2) λx48=>
Zb (idx p.2.1 x48.1) λx49=>
some (.inr (.inr x49.2.2.2.2.1)))) (cond (s30.2==(w64 ((zq way)-1))) (Zb (idx way s30.2) λx51=>
cond (x51.2.1) (Zb (idx way s30.2) λx55=>
Zb (idx p.2.1 x55.1) λx56=>
some (.inr (.inr (w64 (0-x56.2.2.2.2.1))))) (Zb (idx way s30.2) λx59=>
Zb (idx p.2.1 x59.1) λx60=>
some (.inr (.inr x60.2.2.2.2.1)))) (some (.inl ((w64 (s30.1+y36)),(w64 (s30.2+1))))))) (some (.inr (.inl ())))) k (zbe p way i,(i:Int)) (.inr (zgD p way (ixF (λi=>decide (f<zbe p way (i+1))) k i)):Unit⊕Int):=by
    intro k;induction k with
    | zero=>
      intro i hi;have hil:i<way.length:=by omega
      obtain ⟨_,hs,hr⟩:=zlR hp hw hil;refine Lp.done ?_;simp only [zM hil,cond_true];have hlast:((i:Int)==w64 (zq way-1))=true:=by
        rw [zw,ze (by omega) (by omega)]; simp; omega
      rw [zz M0 hil,Zs,ziq hp (hw.m i hil),Zs];simp only [Zs,hr,hlast,cond_true];have hv:(cond (way.getD i M0).2.1 (some (Sum.inr (Sum.inr (w64 (0-(zg8 p way i).2.2.2.2.1)))):Option ((Int×Int)⊕(Unit⊕Int))) (some (Sum.inr (Sum.inr (zg8 p way i).2.2.2.2.1))))=some (Sum.inr (Sum.inr (zgD p way i))):=by
        unfold zgD at *
        cases h:(way.getD i M0).2.1 with
        | true=>
          rw [h] at hs;simp only [if_true] at hs;simp only [cond_true,if_true];rw [ze (by omega) (by omega),Int.zero_sub]
        | false=>rfl
      rw [hv];cases decide (f<w64 (zbe p way i+zg7 p (way.getD i M0).1))<;>rfl
    | succ k ih=>
      intro i hi;have hil:i<way.length:=by omega
      obtain ⟨_,hs,hr⟩:=zlR hp hw hil;have hb:=zgT hp hw (i:=i) (by omega);have hb1:=zgT hp hw (i:=i+1) (by omega);have hsx:=zgS p way i;have hml:mvl p way i=zg7 p (way.getD i M0).1:=rfl;have hlast:((i:Int)==w64 (zq way-1))=false:=by
        rw [zw,ze (by omega) (by omega)]; simp; omega
      have hwe:w64 (zbe p way i+zg7 p (way.getD i M0).1)=zbe p way (i+1):=by
        rw [← hml,← hsx,ze (by omega) (by omega)]
      unfold ixF;by_cases hc:f<zbe p way (i+1)
      · rw [if_pos (decide_eq_true hc)];refine Lp.done ?_;simp only [zM hil,cond_true];rw [zz M0 hil,Zs,ziq hp (hw.m i hil),Zs];simp only [Zs,hr,hwe,decide_eq_true hc,cond_true];unfold zgD at *
        cases h:(way.getD i M0).2.1 with
        | true=>
          rw [h] at hs;simp only [if_true] at hs;simp only [cond_true,if_true];rw [ze (by omega) (by omega),Int.zero_sub]
        | false=>rfl
      · rw [if_neg (by rw [decide_eq_true_eq]; exact hc)];refine Lp.step ?_ (ih (i+1) (by omega));simp only [zM hil,cond_true];rw [zz M0 hil,Zs,ziq hp (hw.m i hil),Zs];simp only [hlast,hwe,decide_eq_false hc,cond_false,zx (show i<9223372036854775807 by omega)]
  have hL:=(key (way.length-1) 0 (by omega)).big (by simp only [big]; omega);have h0:zbe p way 0=0:=rfl;rw [h0,show ((0:Nat):Int)=0 from rfl] at hL;exact congrArg (λo=>Zb o λt61:Unit⊕Int=>alt (λ_=>some 0) (λb64=>some b64) t61) hL
end
end Go.Ai.Sx
/- Motion: the reference's limit over the parts that a train covers. -/
namespace Go.Ai.Sx
open Option renaming bind->Zb,bind_some->Zs
section
variable {p:Plan} {way:List zH} {t:Train} {st:Int} {stops:List Int} {x:zb} (hp:zim p) (hw:zho p way) (ht:zka t)
include hp hw ht
def zn3 (p:Plan) (way:List zH) (t:Train) (f:Int) (k:Nat) (C:List Cover):Prop:=C.length<=k/\(∀ c∈C,0<=c.1/\c.1<(p.2.1.length:Int))/\∀ b:Int,C.foldl (λb c=>min b (rl0 p c.1).2.2.2.1) b=zm5 (ovB p way t.2.1 f) (zkj p way) k 0 b
omit hp hw ht in
theorem zt0 {f:Int} {k:Nat} {C:List Cover} (h:zn3 p way t f k C) (hg:ovB p way t.2.1 f k=false):zn3 p way t f (k+1) C:=by
 obtain ⟨h1,h2,h3⟩:=h;refine ⟨by omega,h2,λb=>?_⟩;rw [h3,zi6 _ _ 1 k 0,zm5,zm5,Nat.zero_add,hg];rfl
omit hp ht in
theorem zrD {f:Int} {k:Nat} {C:List Cover} (h:zn3 p way t f k C) (hk:k<way.length) (hg:ovB p way t.2.1 f k=true) (a b:Int):zn3 p way t f (k+1) (C++[((way.getD k M0).1,a,b,())]):=by
 obtain ⟨h1,h2,h3⟩:=h;refine ⟨by simp; omega,λc hc=>?_,λb=>?_⟩
 . rw [List.mem_append,List.mem_singleton] at hc;rcases hc with hc | rfl
   . exact h2 c hc
   . exact hw.m k hk
 rw [List.foldl_append,h3,zi6 _ _ 1 k 0,zm5,zm5,Nat.zero_add,if_pos hg];rfl
theorem zrE {f:Int} (hf:1<=f/\f<=4000000000000000000):∃ C,zdr p way f t.2.1=some C/\zn3 p way t f way.length C:=by
  have hn:=hw.n;have hl:=ht.len;unfold zdr;have hT:=Tot.iter (σ:=(List Cover×Int×Int)) (τ:=List Cover) (f:=λs15=>
cond (decide (s15.2.2<(zq way))) (Zb (idx way s15.2.2) λx20=>
Zb (zaB p x20.1) λy21=>
cond (decide ((w64 ((max (w64 (f-t.2.1)) s15.2.1)-s15.2.1))>=(w64 ((min f (w64 (s15.2.1+y21)))-s15.2.1)))) (some (.inl (s15.1,(w64 (s15.2.1+y21)),(w64 (s15.2.2+1))))) (Zb (idx way s15.2.2) λx23=>
cond (x23.2.1) (Zb (idx way s15.2.2) λx25=>
Zb (zda 24 s15.1 ([((x25.1,(w64 (y21-(w64 ((min f (w64 (s15.2.1+y21)))-s15.2.1)))),(w64 (y21-(w64 ((max (w64 (f-t.2.1)) s15.2.1)-s15.2.1)))),()):Cover)])) λx26=>
some (.inl (x26,(w64 (s15.2.1+y21)),(w64 (s15.2.2+1))))) (Zb (idx way s15.2.2) λx28=>
Zb (zda 24 s15.1 ([((x28.1,(w64 ((max (w64 (f-t.2.1)) s15.2.1)-s15.2.1)),(w64 ((min f (w64 (s15.2.1+y21)))-s15.2.1)),()):Cover)])) λx29=>
some (.inl (x29,(w64 (s15.2.1+y21)),(w64 (s15.2.2+1))))))) (some (.inr s15.1)))
    (λs=>∃ (i:Nat) (C:List Cover),s=(C,zbe p way i,(i:Int))/\i<=way.length/\zn3 p way t f i C) (λC=>zn3 p way t f way.length C) (λs=>way.length-s.2.2.toNat) (n:=big) (s:=([],0,0)) ⟨0,[],rfl,by omega,by simp,by simp,λb=>rfl⟩ (by simp only [big]; omega) (by
      rintro s ⟨i,C,rfl,hi,hC⟩
      simp only [];by_cases hil:i<way.length
      · have hb:=zgT hp hw (i:=i) (by omega);have hb1:=zgT hp hw (i:=i+1) (by omega);have hsx:=zgS p way i;have hml:mvl p way i=zg7 p (way.getD i M0).1:=rfl;have hmb:=zrB hp hw hil;have hwe:w64 (zbe p way i+zg7 p (way.getD i M0).1)=zbe p way (i+1):=by
          rw [← hml,← hsx,ze (by omega) (by omega)]
        rw [zM hil,cond_true,zz M0 hil,Zs,ziq hp (hw.m i hil),Zs,hwe];rw [ze (n:=f-t.2.1) (by omega) (by omega),ze (n:=max (f-t.2.1) (zbe p way i)-zbe p way i) (by omega) (by omega),ze (n:=min f (zbe p way (i+1))-zbe p way i) (by omega) (by omega)];have hov:ovB p way t.2.1 f i=!decide (max (f-t.2.1) (zbe p way i)-zbe p way i>=min f (zbe p way (i+1))-zbe p way i):=by
          unfold ovB;have h0:i=0->zbe p way i=0:=λh=>by subst h; rfl
          by_cases e:max (f-t.2.1) (zbe p way i)-zbe p way i>=min f (zbe p way (i+1))-zbe p way i
          · rw [decide_eq_true e];by_cases e1:f-t.2.1<zbe p way (i+1)
            · rw [decide_eq_false (show ¬ zbe p way i<f by omega),decide_eq_false (show ¬ i=0 by omega)]; simp
            · rw [decide_eq_false e1]; rfl
          · rw [decide_eq_false e,decide_eq_true (show f-t.2.1<zbe p way (i+1) by omega),decide_eq_true (show zbe p way i<f by omega)]; rfl
        by_cases e:max (f-t.2.1) (zbe p way i)-zbe p way i>=min f (zbe p way (i+1))-zbe p way i
        · rw [decide_eq_true e] at hov ⊢;rw [cond_true,zx (by omega)];exact Tot.some ⟨⟨i+1,C,rfl,by omega,zt0 hC hov⟩,by simp only [Int.toNat_natCast]; omega⟩
        · rw [decide_eq_false e] at hov ⊢;have hcl:=hC.1;rw [cond_false,Zs];have happ:∀ a b:Int,zda 24 C [((way.getD i M0).1,a,b,())]=some (C++[((way.getD i M0).1,a,b,())]):=λa b=>zaQ (by simp; omega);simp only [Zs,happ,zx (show i<9223372036854775807 by omega)];cases (way.getD i M0).2.1 with
          | true=>exact Tot.some ⟨⟨i+1,_,rfl,by omega,zrD hw hC hil hov _ _⟩,by simp only [Int.toNat_natCast]; omega⟩
          | false=>exact Tot.some ⟨⟨i+1,_,rfl,by omega,zrD hw hC hil hov _ _⟩,by simp only [Int.toNat_natCast]; omega⟩
      · have:i=way.length:=by omega
        subst this;rw [zW,cond_false];exact Tot.some hC)
  obtain ⟨C,h1,h2⟩:=hT;exact ⟨C,by rw [h1]; rfl,h2⟩
theorem zfj {f:Int} (hf:1<=f/\f<=4000000000000000000):zdd p way t f=some (zl2 p way t f):=by
  have hn:=hw.n;obtain ⟨C,h1,h2,h3,h4⟩:=zrE hp hw ht hf;unfold zdd;rw [h1,Zs];have hL:=zcv (f:=λs8:Int×Int=>
cond (decide (s8.2<(zq C))) (Zb (idx C s8.2) λx13=>
Zb (idx p.2.1 x13.1) λx14=>
some (.inl ((min s8.1 x14.2.2.2.1),(w64 (s8.2+1))))) (some (.inr s8.1))) C (λi b=>(b,(i:Int))) (λ_ b c=>(.inl (min b (rl0 p c.1).2.2.2.1):Int⊕Int)) (λb=>b) (λ_ _=>True) t.2.2.1 (s0:=(t.2.2.1,0)) rfl (by omega) trivial (λi h b _=>by
      refine ⟨?_,λ_ _=>trivial⟩;simp only [];rw [zM h,cond_true,zej,List.getElem?_eq_getElem h,Zs];have hc:=h3 C[i] (List.getElem_mem h);have hr:idx p.2.1 C[i].1=some (rl0 p C[i].1):=zdv hc.1 hc.2;rw [hr,Zs,zx (by omega)]) (λb _=>by simp only [zW,cond_false])
  rw [hL,ze3,h4];rfl
end
end Go.Ai.Sx
/- Motion: what is safe. -/
namespace Go.Ai.Sx
open Option renaming bind->Zb,bind_some->Zs
section
variable (p:Plan) (way:List zH) (t:Train) (st stop:Int)
def slS (y:zb):Int:=zeM p way (zA t y)
def zfU (x:zb):Bool:=decide (zA t x<=stop)&&decide (x.1/t.1<=zl2 p way t (zA t x))
def nxS (x:zb):za4×Bool:=zdZ t st x (-4) (slS p way t x)
def zpH:Nat->zb->Bool
 | 0,x=>x.1==0
 | n+1,x=>x.1==0||((nxS p way t st x).2&&(zfU p way t stop (nxS p way t st x).1.1&&zpH n (nxS p way t st x).1.1))
def zlT (x:zb):Bool:=zfU p way t stop x&&zpH p way t st stop 36000 x
end
section
variable {p:Plan} {way:List zH} {t:Train} {st:Int} {stops:List Int} {x:zb} (hp:zim p) (hw:zho p way) (ht:zka t) (hst:0<=st/\st<t.2.2.2.2.2.2.2.2.2.1.length)
include hp hw ht hst
theorem zrF (hx:zoE t x) (stop:Int):zbw (zi5 p way t st stops) x stop=some (zfU p way t stop x):=by
 have hf:znW t st 0 0:=⟨hst,by omega,by omega⟩;unfold zbw;show (Zb (Zb (zY (t,st,()) x) λy10=>cond (decide (y10<=stop)) (Zb (zbc (t,st,()) x) _) _) _)=_;rw [(zgA ht hx st).1,Zs,(zik ht hf hx).1,Zs,ztZ hp hw ht hx,Zs];unfold zfU zA;cases decide (x.2.1/(10*t.1)<=stop)<;>rfl
theorem zwq (hx:0<=x.1/\x.1<=25000*t.1) (hwx:0<=x.2.1/\x.2.1<=1000000000000000000) (stop:Int):zbW (zi5 p way t st stops) x stop=some (zlT p way t st stop x):=by
  unfold zbW;rw [zrF hp hw ht hst ⟨hx,hwx.1,by omega⟩ stop,Zs];unfold zlT;cases hfi:zfU p way t stop x with
  | false=>rfl
  | true=>
    have hm:zbP (zi5 p way t st stops).1 x (λy=>zaG (zi5 p way t st stops) y)=some (x,(t,st,()),λy=>zaG (zi5 p way t st stops) y):=rfl;simp only [Bool.not_true,cond_false,hm,Zs,Bool.true_and];have hS:=znX (σ:=Int×Int) (τ:=Int×Int) (t:=t) (st:=st) (sl:=slS p way t) (f:=λy=>zaG (zi5 p way t st stops) y)
      (step:=λs16 x9=>Zb (zbw (zi5 p way t st stops) x9 stop) λy19=>
cond (!y19) (some (.inr (s16.1,s16.2))) (some (.inl (x9.1,x9.2.1))))
      (g:=λs y=>if zfU p way t stop y then .inl (y.1,y.2.1) else .inr (s.1,s.2)) (W:=4000000000000000000) ht hst (by omega)
      (λy h1 h2=>⟨ztX hp hw ht ⟨h1,h2⟩,zgU hp hw ht ⟨h1,h2⟩ _⟩)
      (λs y h1 h2=>by
        rw [zrF hp hw ht hst ⟨h1,h2⟩ stop,Zs];cases zfU p way t stop y<;>rfl) (x.1,x.2.1) x hx ⟨hwx.1,by omega⟩
    obtain ⟨z,hz⟩:=hS;rw [hz,Zs];have key:∀ (n:Nat) (x:zb),(alt (λb23:Int×Int=>some (b23.1==0)) (λ_:Int×Int=>some false) (zlE (λ(s:Int×Int) (y:zb)=>if zfU p way t stop y then .inl (y.1,y.2.1) else .inr (s.1,s.2)) (x.1,x.2.1) (brk t st (slS p way t) n x)):Option Bool)=some (zpH p way t st stop n x):=by
      intro n;induction n with
      | zero=>intro x; rfl
      | succ n ih=>
        intro x;unfold brk zpH;by_cases h0:x.1=0
        · rw [if_pos h0,show (x.1==0)=true by simpa using h0];simp only [zlE,zby,h0]; rfl
        · rw [if_neg h0,show (x.1==0)=false by simpa using h0];show alt _ _ (zlE _ _ (if (nxS p way t st x).2=true then (nxS p way t st x).1.1::brk t st (slS p way t) n (nxS p way t st x).1.1 else []))=_;cases hok:(nxS p way t st x).2 with
          | false=>
            simp only [Bool.false_eq_true,if_false,zlE,zby,Bool.false_and,Bool.or_false];rw [show (x.1==0)=false by simpa using h0]
          | true=>
            simp only [if_true,zlE,Bool.true_and,Bool.false_or];cases hfy:zfU p way t stop (nxS p way t st x).1.1 with
            | false=>rfl
            | true=>
              simp only [if_true,Bool.true_and];exact ih _
    exact key 36000 x
theorem zt1 (hx:0<=x.1/\x.1<=25000*t.1) (hwx:10*t.1<=x.2.1/\x.2.1<=1000000000000000000) (stop:Int):zdF (p,way,t,st,stop,()) x=some (zlT p way t st stop x):=by
  have hm:=ht.m;unfold zdF;have key:∀ (n k:Nat) (v w:Int),k+n=36000->0<=v/\v<=25000*t.1->10*t.1<=w/\w+2000000000*n<=2000000000000000000->∃ T:Bool×Int×Int,T.1=(zfU p way t stop (v,w,())&&zpH p way t st stop n (v,w,()))/\Lp (λs54:Int×Int×Int=>
Zb (zL t (s54.2.1,s54.2.2,())) λy66=>
cond (decide (y66>stop)) (some (.inr (false,s54.2.1,s54.2.2))) (Zb (zcH .i64 s54.2.1 t.1) λx69=>
Zb (zL t (s54.2.1,s54.2.2,())) λy70=>
Zb (zdd p way t y70) λy71=>
cond (decide (x69>y71)) (some (.inr (false,s54.2.1,s54.2.2))) (cond (s54.2.1==0) (some (.inr (true,s54.2.1,s54.2.2))) (cond (s54.1==36000) (some (.inr (false,s54.2.1,s54.2.2))) (Zb (zL t (s54.2.1,s54.2.2,())) λy78=>
Zb (za0 (p,way,t,st,stop,()) y78) λy79=>
Zb (zaD t (s54.2.1,s54.2.2,()) (-4) y79 st) λy80=>
cond (!y80.2.2) (some (.inr (false,y80.1.1,y80.1.2.1))) (some (.inl ((w64 (s54.1+1)),y80.1.1,y80.1.2.1)))))))) n ((k:Int),v,w) T:=by
    intro n;induction n with
    | zero=>
      intro k v w hk hv hww;have:k=36000:=by omega
      subst this;have hso:zoE t (v,w,()):=⟨hv,⟨by show 0<=w; omega,by show w<=_; omega⟩⟩;have hf0:znW t st 0 0:=⟨hst,by omega,by omega⟩;have hpl:1<=zA t (v,w,())/\zA t (v,w,())<=4000000000000000000:=by
        refine ⟨?_,(zm4 hp hw ht hso).2⟩;show 1<=w/(10*t.1);exact (Int.le_ediv_iff_mul_le (by omega)).2 (by omega)
      have e0:zL t (v,w,())=some (zA t (v,w,())):=(zgA ht hso st).2;have e1:zcH .i64 v t.1=some (v/t.1):=(zik ht hf0 hso).2;by_cases c1:zA t (v,w,())<=stop
      · by_cases c2:v/t.1<=zl2 p way t (zA t (v,w,()))
        · have hfb:zfU p way t stop (v,w,())=true:=by
            unfold zfU;rw [decide_eq_true c1,decide_eq_true (show (v,w,()).1/t.1<=zl2 p way t (zA t (v,w,())) from c2)]; rfl
          rw [hfb];by_cases h0:v=0
          · subst h0;refine ⟨(true,0,w),rfl,Lp.done ?_⟩;simp only [e0,Zs,e1,zfj hp hw ht hpl,decide_eq_false (show ¬ zA t (0,w,())>stop by omega),decide_eq_false (show ¬ (0:Int)/t.1>zl2 p way t (zA t (0,w,())) by omega),cond_false];rfl
          · have hb:(v==0)=false:=by simpa using h0
            refine ⟨(false,v,w), ?_,Lp.done ?_⟩
            · show false=(true&&(v==0)); rw [hb]; rfl
            simp only [e0,Zs,e1,zfj hp hw ht hpl,decide_eq_false (show ¬ zA t (v,w,())>stop by omega),decide_eq_false (show ¬ v/t.1>zl2 p way t (zA t (v,w,())) by omega),cond_false,hb];rfl
        · refine ⟨(false,v,w), ?_,Lp.done ?_⟩
          · unfold zfU;rw [decide_eq_false (show ¬ (v,w,()).1/t.1<=zl2 p way t (zA t (v,w,())) from c2),Bool.and_false]; rfl
          simp only [e0,Zs,e1,zfj hp hw ht hpl,decide_eq_false (show ¬ zA t (v,w,())>stop by omega),decide_eq_true (show v/t.1>zl2 p way t (zA t (v,w,())) by omega),cond_false,cond_true]
      · refine ⟨(false,v,w), ?_,Lp.done ?_⟩
        · unfold zfU;rw [decide_eq_false c1]; rfl
        simp only [e0,Zs,decide_eq_true (show zA t (v,w,())>stop by omega),cond_true]
    | succ n ih=>
      intro k v w hk hv hww;have hk0:((k:Int)==36000)=false:=by simp; omega
      have hso:zoE t (v,w,()):=⟨hv,⟨by show 0<=w; omega,by show w<=_; omega⟩⟩;have hf0:znW t st 0 0:=⟨hst,by omega,by omega⟩;have hpl:1<=zA t (v,w,())/\zA t (v,w,())<=4000000000000000000:=by
        refine ⟨?_,(zm4 hp hw ht hso).2⟩;show 1<=w/(10*t.1);exact (Int.le_ediv_iff_mul_le (by omega)).2 (by omega)
      have e0:zL t (v,w,())=some (zA t (v,w,())):=(zgA ht hso st).2;have e1:zcH .i64 v t.1=some (v/t.1):=(zik ht hf0 hso).2;by_cases c1:zA t (v,w,())<=stop
      · by_cases c2:v/t.1<=zl2 p way t (zA t (v,w,()))
        · have hfb:zfU p way t stop (v,w,())=true:=by
            unfold zfU;rw [decide_eq_true c1,decide_eq_true (show (v,w,()).1/t.1<=zl2 p way t (zA t (v,w,())) from c2)]; rfl
          rw [hfb];unfold zpH;by_cases h0:v=0
          · subst h0;refine ⟨(true,0,w),rfl,Lp.done ?_⟩;simp only [e0,Zs,e1,zfj hp hw ht hpl,decide_eq_false (show ¬ zA t (0,w,())>stop by omega),decide_eq_false (show ¬ (0:Int)/t.1>zl2 p way t (zA t (0,w,())) by omega),cond_false];rfl
          · have hb:(v==0)=false:=by simpa using h0
            have hsl:=zgU hp hw ht hso (zA t (v,w,()));have hfin:znW t st (-4) (zeM p way (zA t (v,w,()))):=⟨hst,by omega,hsl⟩;have hstep:zaD t (v,w,()) (-4) (zeM p way (zA t (v,w,()))) st=some ((nxS p way t st (v,w,())).1.1,(nxS p way t st (v,w,())).1.2.1,(nxS p way t st (v,w,())).2):=zlF ht hfin hso;have hbx:(((v,w,()):zb).1==0)=false:=hb;rw [hbx];cases hok:(nxS p way t st (v,w,())).2 with
            | false=>
              refine ⟨(false,(nxS p way t st (v,w,())).1.1.1,(nxS p way t st (v,w,())).1.1.2.1),rfl,Lp.done ?_⟩;simp only [e0,Zs,e1,zfj hp hw ht hpl,decide_eq_false (show ¬ zA t (v,w,())>stop by omega),decide_eq_false (show ¬ v/t.1>zl2 p way t (zA t (v,w,())) by omega),cond_false,hb,hk0,zfT hp hw ht (show 0<=zA t (v,w,())/\zA t (v,w,())<=4000000000000000000 by omega),hstep,hok,Bool.not_false,cond_true]
            | true=>
              obtain ⟨n1,n2⟩:=zgB ht hfin hv ⟨by show 0<=w; omega,by show w<=_; omega⟩ hok;have n1':0<=(nxS p way t st (v,w,())).1.1.1/\(nxS p way t st (v,w,())).1.1.1<=25000*t.1:=n1;have n2':(nxS p way t st (v,w,())).1.1.2.1=w+(nxS p way t st (v,w,())).1.1.1:=n2;obtain ⟨T,h1,h2⟩:=ih (k+1) (nxS p way t st (v,w,())).1.1.1 (nxS p way t st (v,w,())).1.1.2.1 (by omega) n1' (by omega);refine ⟨T, ?_,Lp.step ?_ h2⟩
              · rw [h1]; rfl
              simp only [e0,Zs,e1,zfj hp hw ht hpl,decide_eq_false (show ¬ zA t (v,w,())>stop by omega),decide_eq_false (show ¬ v/t.1>zl2 p way t (zA t (v,w,())) by omega),cond_false,hb,hk0,zfT hp hw ht (show 0<=zA t (v,w,())/\zA t (v,w,())<=4000000000000000000 by omega),hstep,hok,Bool.not_true];rw [zx (by omega)]
        · refine ⟨(false,v,w), ?_,Lp.done ?_⟩
          · unfold zfU;rw [decide_eq_false (show ¬ (v,w,()).1/t.1<=zl2 p way t (zA t (v,w,())) from c2),Bool.and_false]; rfl
          simp only [e0,Zs,e1,zfj hp hw ht hpl,decide_eq_false (show ¬ zA t (v,w,())>stop by omega),decide_eq_true (show v/t.1>zl2 p way t (zA t (v,w,())) by omega),cond_false,cond_true]
      · refine ⟨(false,v,w), ?_,Lp.done ?_⟩
        · unfold zfU;rw [decide_eq_false c1]; rfl
        simp only [e0,Zs,decide_eq_true (show zA t (v,w,())>stop by omega),cond_true]
  obtain ⟨T,h1,h2⟩:=key 36000 0 x.1 x.2.1 (by omega) hx (by omega);rw [show ((0:Nat):Int)=0 from rfl] at h2;have hB:=h2.big (by simp only [big]; omega);have:=congrArg (λo=>Zb o λt82:Bool×Int×Int=>some t82.1) hB;exact this.trans (congrArg some h1)
end
end Go.Ai.Sx
/- Motion: the first safe demand. -/
namespace Go.Ai.Sx
open Option renaming bind->Zb,bind_some->Zs
def zsq (ok:Int->Bool):Nat->Int->Option Int
 | 0,_=>none
 | n+1,d=>if ok d then some d else zsq ok n (d-1)
theorem zj4 {ok:Int->Bool}:∀ {n:Nat} {d e:Int},zsq ok n d=some e->ok e=true/\d-n<e/\e<=d
 | 0,_,_,h=>by cases h
 | n+1,d,e,h=>by
  rw [zsq] at h;split at h
  . rename_i hk;cases h;exact ⟨hk,by omega,by omega⟩
  . obtain ⟨h1,h2,h3⟩:=zj4 h;exact ⟨h1,by omega,by omega⟩
section
variable (p:Plan) (way:List zH) (t:Train) (st stop:Int)
def zcS (x:zb) (d:Int):za4×Bool:=zdZ t st x d (slS p way t x)
def okD (x:zb) (d:Int):Bool:=(zcS p way t st x d).2&&zlT p way t st stop (zcS p way t st x d).1.1
def zpI (x:zb):Option Int:=zsq (okD p way t st stop x) 9 4
end
def zzz (s:za4):Bool×Int×Int×Int×Int×Int×Int×Int×Int×Int×Int:=(true,s.1.1,s.1.2.1,s.2.1.1,s.2.1.2.1,s.2.1.2.2.1,s.2.1.2.2.2.1,s.2.1.2.2.2.2.1,s.2.1.2.2.2.2.2.1,s.2.2.1,s.2.2.2.1)
section
variable {p:Plan} {way:List zH} {t:Train} {st:Int} {stops:List Int} {x:zb} (hp:zim p) (hw:zho p way) (ht:zka t) (hst:0<=st/\st<t.2.2.2.2.2.2.2.2.2.1.length)
include hp hw ht hst
theorem zm6 (hx:0<=x.1/\x.1<=25000*t.1) (hwx:0<=x.2.1/\x.2.1<=500000000000000000) (stop:Int):zaJ (zi5 p way t st stops) x stop=some (match zpI p way t st stop x with | some d=>((zcS p way t st x d).1,true) | none=>(((0,0,()),(0,0,0,0,0,0,()),0,0,()),false)):=by
  have hm:=ht.m;have hso:zoE t x:=⟨hx,⟨hwx.1,by omega⟩⟩;have hsl:=zgU hp hw ht hso (zA t x);unfold zaJ;rw [ztX hp hw ht hso,Zs];have key:∀ (n k:Nat),k+n=9->Lp (λs26:Bool×Int×Int×Int×Int×Int×Int×Int×Int×Int×Int×Int=>
cond (decide (s26.2.1<9)) (Zb (zaz (zi5 p way t st stops).1 x (w64 (4-s26.2.1)) (zeM p way (zA t x))) λy31=>
cond (y31.2) (Zb (zbW (zi5 p way t st stops) y31.1.1 stop) λy36=>
cond (y36) (some (.inr ((true,y31.1.1.1,y31.1.1.2.1,y31.1.2.1.1,y31.1.2.1.2.1,y31.1.2.1.2.2.1,y31.1.2.1.2.2.2.1,y31.1.2.1.2.2.2.2.1,y31.1.2.1.2.2.2.2.2.1,y31.1.2.2.1,y31.1.2.2.2.1):Bool×Int×Int×Int×Int×Int×Int×Int×Int×Int×Int))) (some (.inl (s26.1,(w64 (s26.2.1+1)),s26.2.2.1,s26.2.2.2.1,s26.2.2.2.2.1,s26.2.2.2.2.2.1,s26.2.2.2.2.2.2.1,s26.2.2.2.2.2.2.2.1,s26.2.2.2.2.2.2.2.2.1,s26.2.2.2.2.2.2.2.2.2.1,s26.2.2.2.2.2.2.2.2.2.2.1,s26.2.2.2.2.2.2.2.2.2.2.2)))) (some (.inl (s26.1,(w64 (s26.2.1+1)),s26.2.2.1,s26.2.2.2.1,s26.2.2.2.2.1,s26.2.2.2.2.2.1,s26.2.2.2.2.2.2.1,s26.2.2.2.2.2.2.2.1,s26.2.2.2.2.2.2.2.2.1,s26.2.2.2.2.2.2.2.2.2.1,s26.2.2.2.2.2.2.2.2.2.2.1,s26.2.2.2.2.2.2.2.2.2.2.2)))) (some (.inr (s26.1,s26.2.2.1,s26.2.2.2.1,s26.2.2.2.2.1,s26.2.2.2.2.2.1,s26.2.2.2.2.2.2.1,s26.2.2.2.2.2.2.2.1,s26.2.2.2.2.2.2.2.2.1,s26.2.2.2.2.2.2.2.2.2.1,s26.2.2.2.2.2.2.2.2.2.2.1,s26.2.2.2.2.2.2.2.2.2.2.2)))) n (false,(k:Int),0,0,0,0,0,0,0,0,0,0) (match zsq (okD p way t st stop x) n (4-k) with | some d=>zzz (zcS p way t st x d).1 | none=>(false,0,0,0,0,0,0,0,0,0,0)):=by
    intro n;induction n with
    | zero=>
      intro k hk;have:k=9:=by omega
      subst this;exact Lp.done rfl
    | succ n ih=>
      intro k hk;have hfin:znW t st (4-k) (zeM p way (zA t x)):=⟨hst,by omega,hsl⟩;have hstep:zaz (zi5 p way t st stops).1 x (4-(k:Int)) (zeM p way (zA t x))=some (zcS p way t st x (4-k)):=zoF ht hfin hso;have hnext:Lp _ _ _ _:=ih (k+1) (by omega);rw [show (4-((k+1:Nat):Int))=4-(k:Int)-1 by omega] at hnext;have hok:okD p way t st stop x (4-k)=((zcS p way t st x (4-k)).2&&zlT p way t st stop (zcS p way t st x (4-k)).1.1):=rfl;rw [zsq,hok];cases h1:(zcS p way t st x (4-k)).2 with
      | false=>
        simp only [Bool.false_and,Bool.false_eq_true,if_false];refine Lp.step ?_ hnext;simp only [decide_eq_true (show (k:Int)<9 by omega),cond_true,ze (n:=4-(k:Int)) (by omega) (by omega),hstep,Zs,h1,cond_false];rw [zx (by omega)]
      | true=>
        obtain ⟨n1,n2⟩:=zgB ht hfin hx hso.w h1;have n1':0<=(zcS p way t st x (4-k)).1.1.1/\(zcS p way t st x (4-k)).1.1.1<=25000*t.1:=n1;have n2':(zcS p way t st x (4-k)).1.1.2.1=x.2.1+(zcS p way t st x (4-k)).1.1.1:=n2;have hsafe:=zwq (stops:=stops) hp hw ht hst n1' (by omega) stop;cases h2:zlT p way t st stop (zcS p way t st x (4-k)).1.1 with
        | false=>
          simp only [Bool.and_false,Bool.false_eq_true,if_false];refine Lp.step ?_ hnext;simp only [decide_eq_true (show (k:Int)<9 by omega),cond_true,ze (n:=4-(k:Int)) (by omega) (by omega),hstep,Zs,h1,hsafe,h2,cond_false];rw [zx (by omega)]
        | true=>
          simp only [Bool.and_true,if_true];refine Lp.done ?_;simp only [decide_eq_true (show (k:Int)<9 by omega),cond_true,ze (n:=4-(k:Int)) (by omega) (by omega),hstep,Zs,h1,hsafe,h2];rfl
  have hB:=(key 9 0 rfl).big (by simp only [big]; omega);rw [show ((0:Nat):Int)=0 from rfl] at hB;refine (congrArg (λo=>Zb o λt39:Bool×Int×Int×Int×Int×Int×Int×Int×Int×Int×Int=>some ((((t39.2.1,t39.2.2.1,()),(t39.2.2.2.1,t39.2.2.2.2.1,t39.2.2.2.2.2.1,t39.2.2.2.2.2.2.1,t39.2.2.2.2.2.2.2.1,t39.2.2.2.2.2.2.2.2.1,()),t39.2.2.2.2.2.2.2.2.2.1,t39.2.2.2.2.2.2.2.2.2.2,()),t39.1):za4×Bool)) hB).trans ?_;rw [Zs];unfold zpI;rw [show (4:Int)-0=4 from rfl];cases zsq (okD p way t st stop x) 9 4<;>rfl
theorem zm7 (hx:0<=x.1/\x.1<=25000*t.1) (hwx:10*t.1<=x.2.1/\x.2.1<=500000000000000000) (stop:Int):zcb (p,way,t,st,stop,()) x=some (match zpI p way t st stop x with | some d=>(d,true) | none=>(0,false)):=by
  have hm:=ht.m;have hso:zoE t x:=⟨hx,⟨by omega,by omega⟩⟩;have hsl:=zgU hp hw ht hso (zA t x);have hpl:=zm4 hp hw ht hso;unfold zcb;have key:∀ (n:Nat) (d:Int),d+5=n->d<=4->Lp (λs18:Int=>
cond (decide (s18>=(-4))) (Zb (zL t x) λy26=>
Zb (za0 (p,way,t,st,stop,()) y26) λy27=>
Zb (zaD t x s18 y27 st) λy28=>
cond (y28.2.2) (Zb (zdF (p,way,t,st,stop,()) y28.1) λy34=>
cond (y34) (some (.inr (.inr (s18,true)))) (some (.inl (w64 (s18-1))))) (some (.inl (w64 (s18-1))))) (some (.inr (.inl ())))) n d (match zsq (okD p way t st stop x) n d with | some e=>(.inr (e,true):Unit⊕(Int×Bool)) | none=>.inl ()):=by
    intro n;induction n with
    | zero=>
      intro d hd _;refine Lp.done ?_;rw [decide_eq_false (by omega)]; rfl
    | succ n ih=>
      intro d hd hd4;have hfin:znW t st d (zeM p way (zA t x)):=⟨hst,by omega,hsl⟩;have hstep:zaD t x d (zeM p way (zA t x)) st=some ((zcS p way t st x d).1.1,(zcS p way t st x d).1.2.1,(zcS p way t st x d).2):=zlF ht hfin hso;have e0:zL t x=some (zA t x):=(zgA ht hso st).2;have hnext:=ih (d-1) (by omega) (by omega);have hok:okD p way t st stop x d=((zcS p way t st x d).2&&zlT p way t st stop (zcS p way t st x d).1.1):=rfl;rw [zsq,hok];cases h1:(zcS p way t st x d).2 with
      | false=>
        simp only [Bool.false_and,Bool.false_eq_true,if_false];refine Lp.step ?_ hnext;simp only [decide_eq_true (show d>=-4 by omega),cond_true,e0,Zs,zfT hp hw ht hpl,hstep,h1,cond_false,ze (n:=d-1) (by omega) (by omega)]
      | true=>
        obtain ⟨n1,n2⟩:=zgB ht hfin hx hso.w h1;have n1':0<=(zcS p way t st x d).1.1.1/\(zcS p way t st x d).1.1.1<=25000*t.1:=n1;have n2':(zcS p way t st x d).1.1.2.1=x.2.1+(zcS p way t st x d).1.1.1:=n2;have hsafe:=zt1 hp hw ht hst n1' (by omega) stop;cases h2:zlT p way t st stop (zcS p way t st x d).1.1 with
        | false=>
          simp only [Bool.and_false,Bool.false_eq_true,if_false];refine Lp.step ?_ hnext;simp only [decide_eq_true (show d>=-4 by omega),cond_true,e0,Zs,zfT hp hw ht hpl,hstep,h1,hsafe,h2,cond_false,ze (n:=d-1) (by omega) (by omega)]
        | true=>
          simp only [Bool.and_true,if_true];refine Lp.done ?_;simp only [decide_eq_true (show d>=-4 by omega),cond_true,e0,Zs,zfT hp hw ht hpl,hstep,h1,hsafe,h2]
  have hB:=(key 9 4 rfl (by omega)).big (by simp only [big]; omega);rw [hB,Zs];unfold zpI;cases zsq (okD p way t st stop x) 9 4<;>rfl
end
end Go.Ai.Sx
/- Motion: one leg. -/
namespace Go.Ai.Sx
open Option renaming bind->Zb,bind_some->Zs
def zwr (p_0:zav) (p_2:Int):(Int×Int×Int×Int×Int×Int×Int×Int×Int×Int×Int×Int×Int×Int×Int×Int×Int×Int×Int×Int×Int×Int×Int×Int×Int)->Option ((Int×Int×Int×Int×Int×Int×Int×Int×Int×Int×Int×Int×Int×Int×Int×Int×Int×Int×Int×Int×Int×Int×Int×Int×Int)⊕(Bool×Int×Int×Int×Int×Int×Int×Int×Int×Int×Int×Int×Int×Int×Int×Int×Int×Int×Int×Int×Int×Int×Int×Int×Int)):=(λs77=>
Zb (zY p_0.1 (s77.2.2.2.2.2.2.2.2.2.2.2.2.2.2.1,s77.2.2.2.2.2.2.2.2.2.2.2.2.2.2.2.1,())) λy80=>
cond (s77.2.2.2.2.2.2.2.2.2.2.2.2.2.2.1==0) (Zb (zS (w64 (p_2-y80)) 0 1000) λy84=>
cond (y84) (some (.inr (true,y80,s77.2.2.2.2.2.2.2.2.2.2.2.2.2.2.1,s77.2.2.2.2.2.2.2.2.2.2.2.2.2.2.2.1,s77.2.1,y80,s77.2.2.2.1,s77.2.2.2.2.1,s77.2.2.2.2.2.1,s77.2.2.2.2.2.2.1,s77.2.2.2.2.2.2.2.1,s77.2.2.2.2.2.2.2.2.1,s77.2.2.2.2.2.2.2.2.2.1,s77.2.2.2.2.2.2.2.2.2.2.1,s77.2.1,s77.2.2.2.1,s77.2.2.2.2.1,s77.2.2.2.2.2.1,s77.2.2.2.2.2.2.1,s77.2.2.2.2.2.2.2.1,s77.2.2.2.2.2.2.2.2.1,s77.2.2.2.2.2.2.2.2.2.1,s77.2.2.2.2.2.2.2.2.2.2.1,s77.2.2.2.2.2.2.2.2.2.2.2.2.2.2.1,s77.2.2.2.2.2.2.2.2.2.2.2.2.2.2.2.1))) (cond (s77.1==36000) (some (.inr (false,s77.2.2.1,s77.2.2.2.2.2.2.2.2.2.2.2.2.2.2.1,s77.2.2.2.2.2.2.2.2.2.2.2.2.2.2.2.1,s77.2.1,s77.2.2.1,s77.2.2.2.1,s77.2.2.2.2.1,s77.2.2.2.2.2.1,s77.2.2.2.2.2.2.1,s77.2.2.2.2.2.2.2.1,s77.2.2.2.2.2.2.2.2.1,s77.2.2.2.2.2.2.2.2.2.1,s77.2.2.2.2.2.2.2.2.2.2.1,s77.2.1,s77.2.2.2.1,s77.2.2.2.2.1,s77.2.2.2.2.2.1,s77.2.2.2.2.2.2.1,s77.2.2.2.2.2.2.2.1,s77.2.2.2.2.2.2.2.2.1,s77.2.2.2.2.2.2.2.2.2.1,s77.2.2.2.2.2.2.2.2.2.2.1,s77.2.2.2.2.2.2.2.2.2.2.2.2.2.2.1,s77.2.2.2.2.2.2.2.2.2.2.2.2.2.2.2.1))) (Zb (zaJ p_0 (s77.2.2.2.2.2.2.2.2.2.2.2.2.2.2.1,s77.2.2.2.2.2.2.2.2.2.2.2.2.2.2.2.1,()) p_2) λy87=>
cond (!y87.2) (some (.inr (false,s77.2.2.1,s77.2.2.2.2.2.2.2.2.2.2.2.2.2.2.1,s77.2.2.2.2.2.2.2.2.2.2.2.2.2.2.2.1,s77.2.1,s77.2.2.1,s77.2.2.2.1,s77.2.2.2.2.1,s77.2.2.2.2.2.1,s77.2.2.2.2.2.2.1,s77.2.2.2.2.2.2.2.1,s77.2.2.2.2.2.2.2.2.1,s77.2.2.2.2.2.2.2.2.2.1,s77.2.2.2.2.2.2.2.2.2.2.1,s77.2.1,s77.2.2.2.1,s77.2.2.2.2.1,s77.2.2.2.2.2.1,s77.2.2.2.2.2.2.1,s77.2.2.2.2.2.2.2.1,s77.2.2.2.2.2.2.2.2.1,s77.2.2.2.2.2.2.2.2.2.1,s77.2.2.2.2.2.2.2.2.2.2.1,s77.2.2.2.2.2.2.2.2.2.2.2.2.2.2.1,s77.2.2.2.2.2.2.2.2.2.2.2.2.2.2.2.1))) (cond (decide (y87.1.1.2.1>10000000000000000)) (some (.inr (false,s77.2.2.1,s77.2.2.2.2.2.2.2.2.2.2.2.2.2.2.1,s77.2.2.2.2.2.2.2.2.2.2.2.2.2.2.2.1,s77.2.1,s77.2.2.1,s77.2.2.2.1,s77.2.2.2.2.1,s77.2.2.2.2.2.1,s77.2.2.2.2.2.2.1,s77.2.2.2.2.2.2.2.1,s77.2.2.2.2.2.2.2.2.1,s77.2.2.2.2.2.2.2.2.2.1,s77.2.2.2.2.2.2.2.2.2.2.1,s77.2.1,s77.2.2.2.1,s77.2.2.2.2.1,s77.2.2.2.2.2.1,s77.2.2.2.2.2.2.1,s77.2.2.2.2.2.2.2.1,s77.2.2.2.2.2.2.2.2.1,s77.2.2.2.2.2.2.2.2.2.1,s77.2.2.2.2.2.2.2.2.2.2.1,s77.2.2.2.2.2.2.2.2.2.2.2.2.2.2.1,s77.2.2.2.2.2.2.2.2.2.2.2.2.2.2.2.1))) (Zb (zcA ([(s77.2.2.2.1,s77.2.2.2.2.1,s77.2.2.2.2.2.1,s77.2.2.2.2.2.2.1,s77.2.2.2.2.2.2.2.1,s77.2.2.2.2.2.2.2.2.1,()),y87.1.2.1])) λy93=>
some (.inl ((w64 (s77.1+1)),(w64 (s77.2.1+100)),s77.2.2.1,y93.1,y93.2.1,y93.2.2.1,y93.2.2.2.1,y93.2.2.2.2.1,y93.2.2.2.2.2.1,(max s77.2.2.2.2.2.2.2.2.2.1 y87.1.2.2.1),(max s77.2.2.2.2.2.2.2.2.2.2.1 y87.1.2.2.2.1),s77.2.2.2.2.2.2.2.2.2.2.2.1,s77.2.2.2.2.2.2.2.2.2.2.2.2.1,s77.2.2.2.2.2.2.2.2.2.2.2.2.2.1,y87.1.1.1,y87.1.1.2.1,s77.2.2.2.2.2.2.2.2.2.2.2.2.2.2.2.2.1,s77.2.2.2.2.2.2.2.2.2.2.2.2.2.2.2.2.2.1,s77.2.2.2.2.2.2.2.2.2.2.2.2.2.2.2.2.2.2.1,s77.2.2.2.2.2.2.2.2.2.2.2.2.2.2.2.2.2.2.2.1,s77.2.2.2.2.2.2.2.2.2.2.2.2.2.2.2.2.2.2.2.2.1,s77.2.2.2.2.2.2.2.2.2.2.2.2.2.2.2.2.2.2.2.2.2.1,s77.2.2.2.2.2.2.2.2.2.2.2.2.2.2.2.2.2.2.2.2.2.2.1,s77.2.2.2.2.2.2.2.2.2.2.2.2.2.2.2.2.2.2.2.2.2.2.2.1,s77.2.2.2.2.2.2.2.2.2.2.2.2.2.2.2.2.2.2.2.2.2.2.2.2))))))) (cond (s77.1==36000) (some (.inr (false,s77.2.2.1,s77.2.2.2.2.2.2.2.2.2.2.2.2.2.2.1,s77.2.2.2.2.2.2.2.2.2.2.2.2.2.2.2.1,s77.2.1,s77.2.2.1,s77.2.2.2.1,s77.2.2.2.2.1,s77.2.2.2.2.2.1,s77.2.2.2.2.2.2.1,s77.2.2.2.2.2.2.2.1,s77.2.2.2.2.2.2.2.2.1,s77.2.2.2.2.2.2.2.2.2.1,s77.2.2.2.2.2.2.2.2.2.2.1,s77.2.1,s77.2.2.2.1,s77.2.2.2.2.1,s77.2.2.2.2.2.1,s77.2.2.2.2.2.2.1,s77.2.2.2.2.2.2.2.1,s77.2.2.2.2.2.2.2.2.1,s77.2.2.2.2.2.2.2.2.2.1,s77.2.2.2.2.2.2.2.2.2.2.1,s77.2.2.2.2.2.2.2.2.2.2.2.2.2.2.1,s77.2.2.2.2.2.2.2.2.2.2.2.2.2.2.2.1))) (Zb (zaJ p_0 (s77.2.2.2.2.2.2.2.2.2.2.2.2.2.2.1,s77.2.2.2.2.2.2.2.2.2.2.2.2.2.2.2.1,()) p_2) λy96=>
cond (!y96.2) (some (.inr (false,s77.2.2.1,s77.2.2.2.2.2.2.2.2.2.2.2.2.2.2.1,s77.2.2.2.2.2.2.2.2.2.2.2.2.2.2.2.1,s77.2.1,s77.2.2.1,s77.2.2.2.1,s77.2.2.2.2.1,s77.2.2.2.2.2.1,s77.2.2.2.2.2.2.1,s77.2.2.2.2.2.2.2.1,s77.2.2.2.2.2.2.2.2.1,s77.2.2.2.2.2.2.2.2.2.1,s77.2.2.2.2.2.2.2.2.2.2.1,s77.2.1,s77.2.2.2.1,s77.2.2.2.2.1,s77.2.2.2.2.2.1,s77.2.2.2.2.2.2.1,s77.2.2.2.2.2.2.2.1,s77.2.2.2.2.2.2.2.2.1,s77.2.2.2.2.2.2.2.2.2.1,s77.2.2.2.2.2.2.2.2.2.2.1,s77.2.2.2.2.2.2.2.2.2.2.2.2.2.2.1,s77.2.2.2.2.2.2.2.2.2.2.2.2.2.2.2.1))) (cond (decide (y96.1.1.2.1>10000000000000000)) (some (.inr (false,s77.2.2.1,s77.2.2.2.2.2.2.2.2.2.2.2.2.2.2.1,s77.2.2.2.2.2.2.2.2.2.2.2.2.2.2.2.1,s77.2.1,s77.2.2.1,s77.2.2.2.1,s77.2.2.2.2.1,s77.2.2.2.2.2.1,s77.2.2.2.2.2.2.1,s77.2.2.2.2.2.2.2.1,s77.2.2.2.2.2.2.2.2.1,s77.2.2.2.2.2.2.2.2.2.1,s77.2.2.2.2.2.2.2.2.2.2.1,s77.2.1,s77.2.2.2.1,s77.2.2.2.2.1,s77.2.2.2.2.2.1,s77.2.2.2.2.2.2.1,s77.2.2.2.2.2.2.2.1,s77.2.2.2.2.2.2.2.2.1,s77.2.2.2.2.2.2.2.2.2.1,s77.2.2.2.2.2.2.2.2.2.2.1,s77.2.2.2.2.2.2.2.2.2.2.2.2.2.2.1,s77.2.2.2.2.2.2.2.2.2.2.2.2.2.2.2.1))) (Zb (zcA ([(s77.2.2.2.1,s77.2.2.2.2.1,s77.2.2.2.2.2.1,s77.2.2.2.2.2.2.1,s77.2.2.2.2.2.2.2.1,s77.2.2.2.2.2.2.2.2.1,()),y96.1.2.1])) λy102=>
some (.inl ((w64 (s77.1+1)),(w64 (s77.2.1+100)),s77.2.2.1,y102.1,y102.2.1,y102.2.2.1,y102.2.2.2.1,y102.2.2.2.2.1,y102.2.2.2.2.2.1,(max s77.2.2.2.2.2.2.2.2.2.1 y96.1.2.2.1),(max s77.2.2.2.2.2.2.2.2.2.2.1 y96.1.2.2.2.1),s77.2.2.2.2.2.2.2.2.2.2.2.1,s77.2.2.2.2.2.2.2.2.2.2.2.2.1,s77.2.2.2.2.2.2.2.2.2.2.2.2.2.1,y96.1.1.1,y96.1.1.2.1,s77.2.2.2.2.2.2.2.2.2.2.2.2.2.2.2.2.1,s77.2.2.2.2.2.2.2.2.2.2.2.2.2.2.2.2.2.1,s77.2.2.2.2.2.2.2.2.2.2.2.2.2.2.2.2.2.2.1,s77.2.2.2.2.2.2.2.2.2.2.2.2.2.2.2.2.2.2.2.1,s77.2.2.2.2.2.2.2.2.2.2.2.2.2.2.2.2.2.2.2.2.1,s77.2.2.2.2.2.2.2.2.2.2.2.2.2.2.2.2.2.2.2.2.2.1,s77.2.2.2.2.2.2.2.2.2.2.2.2.2.2.2.2.2.2.2.2.2.2.1,s77.2.2.2.2.2.2.2.2.2.2.2.2.2.2.2.2.2.2.2.2.2.2.2.1,s77.2.2.2.2.2.2.2.2.2.2.2.2.2.2.2.2.2.2.2.2.2.2.2.2)))))))
def zw4:(Bool×Int×Int×Int×Int×Int×Int×Int×Int×Int×Int×Int×Int×Int×Int×Int×Int×Int×Int×Int×Int×Int×Int×Int×Int)->Option (Leg×zb×Bool):=λt103=>
some ((t103.2.2.2.2.1,t103.2.2.2.2.2.1,(t103.2.2.2.2.2.2.1,t103.2.2.2.2.2.2.2.1,t103.2.2.2.2.2.2.2.2.1,t103.2.2.2.2.2.2.2.2.2.1,t103.2.2.2.2.2.2.2.2.2.2.1,t103.2.2.2.2.2.2.2.2.2.2.2.1,()),t103.2.2.2.2.2.2.2.2.2.2.2.2.1,t103.2.2.2.2.2.2.2.2.2.2.2.2.2.1,()),(t103.2.2.1,t103.2.2.2.1,()),t103.1)
theorem zws (a b:Int):w64 (w64 a+b)=w64 (a+b):=by
 simp only [w64,IntKind.wrap,IntKind.bits,IntKind.signed]; simp; omega
def zn4 (l m:z5):z5:=(w64 (l.1+m.1),w64 (l.2.1+m.2.1),w64 (l.2.2.1+m.2.2.1),w64 (l.2.2.2.1+m.2.2.2.1),w64 (l.2.2.2.2.1+m.2.2.2.2.1),w64 (l.2.2.2.2.2.1+m.2.2.2.2.2.1),())
theorem zuG (l m:z5):zcA [l,m]=some (zn4 l m):=by
 unfold zcA;have hL:Lp (λs9:Int×Int×Int×Int×Int×Int×Int=>
cond (decide (s9.1<(zq [l,m]))) (Zb (idx [l,m] s9.1) λx12=>
some (.inl ((w64 (s9.1+1)),(w64 (s9.2.1+x12.1)),(w64 (s9.2.2.1+x12.2.1)),(w64 (s9.2.2.2.1+x12.2.2.1)),(w64 (s9.2.2.2.2.1+x12.2.2.2.1)),(w64 (s9.2.2.2.2.2.1+x12.2.2.2.2.1)),(w64 (s9.2.2.2.2.2.2+x12.2.2.2.2.2.1))))) (some (.inr (s9.2.1,s9.2.2.1,s9.2.2.2.1,s9.2.2.2.2.1,s9.2.2.2.2.2.1,s9.2.2.2.2.2.2)))) 2 (0,0,0,0,0,0,0) (w64 (w64 (0+l.1)+m.1),w64 (w64 (0+l.2.1)+m.2.1),w64 (w64 (0+l.2.2.1)+m.2.2.1),w64 (w64 (0+l.2.2.2.1)+m.2.2.2.1),w64 (w64 (0+l.2.2.2.2.1)+m.2.2.2.2.1),w64 (w64 (0+l.2.2.2.2.2.1)+m.2.2.2.2.2.1)):=Lp.step rfl (Lp.step rfl (Lp.done rfl))
 rw [hL.big (by simp only [big]; omega),Zs];simp only [zws,Int.zero_add];rfl
section
variable (p:Plan) (way:List zH) (t:Train) (st stop:Int)
def zl3 (x:zb):Bool:=x.1==0&&decide (stop-zA t x<=1000)
def zkk:Nat->Int->z5->Int->Int->zb->Option (Leg×zb)
 | 0,tm,l,a,b,x=>if zl3 t stop x then some ((tm,zA t x,l,a,b,()),x) else none
 | n+1,tm,l,a,b,x=>if zl3 t stop x then some ((tm,zA t x,l,a,b,()),x) else
  match zpI p way t st stop x with
  | none=>none
  | some d=>zkk n (tm+100) (zn4 l (zcS p way t st x d).1.2.1) (max a (zcS p way t st x d).1.2.2.1) (max b (zcS p way t st x d).1.2.2.2.1) (zcS p way t st x d).1.1
end
structure zl4 (t:Train) (stop:Int) (x:zb):Prop where
 p:0<=x.1/\x.1<=25000*t.1
 w:10*t.1<=x.2.1/\x.2.1<=1000000000000000
 s:zA t x<=stop
section
variable {p:Plan} {way:List zH} {t:Train} {st:Int} {stops:List Int} {x:zb} (hp:zim p) (hw:zho p way) (ht:zka t) (hst:0<=st/\st<t.2.2.2.2.2.2.2.2.2.1.length) {stop:Int} (hS:stop<=1000000000)
include hp hw ht hst hS
theorem zlU (hx:zl4 t stop x) {d:Int} (hd:zpI p way t st stop x=some d):zl4 t stop (zcS p way t st x d).1.1/\(zcS p way t st x d).1.1.2.1=x.2.1+(zcS p way t st x d).1.1.1/\zfU p way t stop (zcS p way t st x d).1.1=true:=by
 obtain ⟨h1,h2,h3⟩:=zj4 hd;unfold okD at h1;rw [Bool.and_eq_true] at h1;have hm:=ht.m;have hxw:=hx.w;have hso:zoE t x:=⟨hx.p,⟨by omega,by omega⟩⟩;have hfin:znW t st d (slS p way t x):=⟨hst,by omega,zgU hp hw ht hso _⟩;obtain ⟨n1,n2⟩:=zgB ht hfin hx.p hso.w h1.1;have hs:=h1.2;unfold zlT at hs;rw [Bool.and_eq_true] at hs;have hf:=hs.1;unfold zfU at hf;rw [Bool.and_eq_true,decide_eq_true_eq] at hf;refine ⟨⟨n1, ?_,hf.1⟩,n2,hs.1⟩;have n2':(zcS p way t st x d).1.1.2.1=x.2.1+(zcS p way t st x d).1.1.1:=n2;have n1':0<=(zcS p way t st x d).1.1.1/\(zcS p way t st x d).1.1.1<=25000*t.1:=n1;refine ⟨by omega, ?_⟩;have h5:=hf.1;unfold zA at h5;have h6:(zcS p way t st x d).1.1.2.1<(stop+1)*(10*t.1):=(Int.ediv_lt_iff_lt_mul (by omega)).1 (by omega);by_cases h0:0<=stop+1
 . have h7:=zcc (a:=stop+1) (b:=10*t.1) (A:=1000000001) (B:=800000) ⟨h0,by omega⟩ ⟨by omega,by omega⟩;omega
 . have h8:=Int.mul_nonneg (a:=-(stop+1)) (b:=10*t.1) (by omega) (by omega);rw [Int.neg_mul] at h8;omega
section
variable {k:Nat} {tm l1 l2 l3 l4 l5 l6 a b v w:Int} (hx:zl4 t stop (v,w,()))
include hx
omit hp hw hst in
theorem zgV:zoE t (v,w,())/\zY (zi5 p way t st stops).1 (v,w,())=some (zA t (v,w,()))/\zL t (v,w,())=some (zA t (v,w,()))/\0<=zA t (v,w,()):=by
 have hm:=ht.m;have hxw:10*t.1<=w/\w<=1000000000000000:=hx.w;have hso:zoE t (v,w,()):=⟨hx.p,⟨by show 0<=w; omega,by show w<=_; omega⟩⟩;have h0:0<=w/(10*t.1):=Int.ediv_nonneg (by omega) (by omega);exact ⟨hso,(zgA ht hso st).1,(zgA ht hso st).2,h0⟩
theorem zoO (ha:zl3 t stop (v,w,())=true):∃ T,zwr (zi5 p way t st stops) stop ((k:Int),tm,0,l1,l2,l3,l4,l5,l6,a,b,0,0,0,v,w,0,0,0,0,0,0,0,0,0)=some (.inr T)/\zw4 T=some ((tm,zA t (v,w,()),(l1,l2,l3,l4,l5,l6,()),a,b,()),(v,w,()),true):=by
 obtain ⟨_,e0,_,h0⟩:=zgV (stops:=stops) (st:=st) (p:=p) (way:=way) ht hS hx;have hs:=hx.s;unfold zl3 at ha;rw [Bool.and_eq_true,beq_iff_eq,decide_eq_true_eq] at ha;obtain ⟨ha1,ha2⟩:=ha;have ha1:v=0:=ha1;subst ha1;have hin:inB (stop-zA t (0,w,())) 0 1000=true:=zal.2 (by omega);unfold zwr;simp only [e0,Zs,show ((0:Int)==0)=true from rfl,cond_true,mwithin,ze (n:=stop-zA t (0,w,())) (by omega) (by omega),hin];exact ⟨_,rfl,rfl⟩
theorem zoP (ha:zl3 t stop (v,w,())=false) (hk:k=36000\/zpI p way t st stop (v,w,())=none):∃ T,zwr (zi5 p way t st stops) stop ((k:Int),tm,0,l1,l2,l3,l4,l5,l6,a,b,0,0,0,v,w,0,0,0,0,0,0,0,0,0)=some (.inr T)/\∃ L X,zw4 T=some (L,X,false):=by
 obtain ⟨hso,e0,_,h0⟩:=zgV (stops:=stops) (st:=st) (p:=p) (way:=way) ht hS hx;have hs:=hx.s;have hm:=ht.m;have hxw:10*t.1<=w/\w<=1000000000000000:=hx.w;have hc:=zm6 (stops:=stops) hp hw ht hst hx.p (show 0<=((v,w,()):zb).2.1/\((v,w,()):zb).2.1<=500000000000000000 from ⟨by show 0<=w; omega,by show w<=_; omega⟩) stop;unfold zwr;by_cases hv:v=0
 . subst hv;have hin:inB (stop-zA t (0,w,())) 0 1000=false:=by
    cases h:inB (stop-zA t (0,w,())) 0 1000 with
    | false=>rfl
    | true=>
     have:=zal.1 h;unfold zl3 at ha;rw [decide_eq_true (by omega)] at ha;cases ha
   simp only [e0,Zs,show ((0:Int)==0)=true from rfl,cond_true,mwithin,ze (n:=stop-zA t (0,w,())) (by omega) (by omega),hin,cond_false];by_cases hk0:k=36000
   . subst hk0;exact ⟨_,rfl,_,_,rfl⟩
   . have hkb:((k:Int)==36000)=false:=by simp; omega
     have hd:=hk.resolve_left hk0;rw [hd] at hc;simp only [hkb,cond_false,hc,Zs,Bool.not_false,cond_true];exact ⟨_,rfl,_,_,rfl⟩
 . have hvb:(v==0)=false:=by simpa using hv
   simp only [e0,Zs,hvb,cond_false];by_cases hk0:k=36000
   . subst hk0;exact ⟨_,rfl,_,_,rfl⟩
   . have hkb:((k:Int)==36000)=false:=by simp; omega
     have hd:=hk.resolve_left hk0;rw [hd] at hc;simp only [hkb,cond_false,hc,Zs,Bool.not_false,cond_true];exact ⟨_,rfl,_,_,rfl⟩
theorem zwt (ha:zl3 t stop (v,w,())=false) (hk:k<36000) (htm:0<=tm/\tm<=3600000) {d:Int} (hd:zpI p way t st stop (v,w,())=some d):zwr (zi5 p way t st stops) stop ((k:Int),tm,0,l1,l2,l3,l4,l5,l6,a,b,0,0,0,v,w,0,0,0,0,0,0,0,0,0)=some (.inl (((k+1:Nat):Int),tm+100,0,(zn4 (l1,l2,l3,l4,l5,l6,()) (zcS p way t st (v,w,()) d).1.2.1).1,(zn4 (l1,l2,l3,l4,l5,l6,()) (zcS p way t st (v,w,()) d).1.2.1).2.1,(zn4 (l1,l2,l3,l4,l5,l6,()) (zcS p way t st (v,w,()) d).1.2.1).2.2.1,(zn4 (l1,l2,l3,l4,l5,l6,()) (zcS p way t st (v,w,()) d).1.2.1).2.2.2.1,(zn4 (l1,l2,l3,l4,l5,l6,()) (zcS p way t st (v,w,()) d).1.2.1).2.2.2.2.1,(zn4 (l1,l2,l3,l4,l5,l6,()) (zcS p way t st (v,w,()) d).1.2.1).2.2.2.2.2.1,max a (zcS p way t st (v,w,()) d).1.2.2.1,max b (zcS p way t st (v,w,()) d).1.2.2.2.1,0,0,0,(zcS p way t st (v,w,()) d).1.1.1,(zcS p way t st (v,w,()) d).1.1.2.1,0,0,0,0,0,0,0,0,0)):=by
 obtain ⟨hso,e0,_,h0⟩:=zgV (stops:=stops) (st:=st) (p:=p) (way:=way) ht hS hx;have hs:=hx.s;have hm:=ht.m;have hxw:10*t.1<=w/\w<=1000000000000000:=hx.w;have hc:=zm6 (stops:=stops) hp hw ht hst hx.p (show 0<=((v,w,()):zb).2.1/\((v,w,()):zb).2.1<=500000000000000000 from ⟨by show 0<=w; omega,by show w<=_; omega⟩) stop;have hnw:=(zlU hp hw ht hst hS hx hd).1.w;have hkb:((k:Int)==36000)=false:=by simp; omega
 rw [hd] at hc;unfold zwr;by_cases hv:v=0
 . subst hv;have hin:inB (stop-zA t (0,w,())) 0 1000=false:=by
    cases h:inB (stop-zA t (0,w,())) 0 1000 with
    | false=>rfl
    | true=>
     have:=zal.1 h;unfold zl3 at ha;rw [decide_eq_true (by omega)] at ha;cases ha
   simp only [e0,Zs,show ((0:Int)==0)=true from rfl,cond_true,mwithin,ze (n:=stop-zA t (0,w,())) (by omega) (by omega),hin,cond_false,hkb,hc,Bool.not_true,decide_eq_false (show ¬ (zcS p way t st (0,w,()) d).1.1.2.1>10000000000000000 by omega),zuG,zx (show k<9223372036854775807 by omega),ze (n:=tm+100) (by omega) (by omega)]
 . have hvb:(v==0)=false:=by simpa using hv
   simp only [e0,Zs,hvb,cond_false,hkb,hc,Bool.not_true,decide_eq_false (show ¬ (zcS p way t st (v,w,()) d).1.1.2.1>10000000000000000 by omega),zuG,zx (show k<9223372036854775807 by omega),ze (n:=tm+100) (by omega) (by omega)]
end
theorem zt2:∀ (n k:Nat) (tm l1 l2 l3 l4 l5 l6 a b v w:Int),k+n=36000->tm=100*k->zl4 t stop (v,w,())->∃ T,Lp (zwr (zi5 p way t st stops) stop) n ((k:Int),tm,0,l1,l2,l3,l4,l5,l6,a,b,0,0,0,v,w,0,0,0,0,0,0,0,0,0) T/\(match zkk p way t st stop n tm (l1,l2,l3,l4,l5,l6,()) a b (v,w,()) with | some (g,y)=>zw4 T=some (g,y,true) | none=>∃ L X,zw4 T=some (L,X,false)):=by
 intro n;induction n with
 | zero=>
  intro k tm l1 l2 l3 l4 l5 l6 a b v w hk htm hx;unfold zkk;cases ha:zl3 t stop (v,w,()) with
  | true=>
   obtain ⟨T,h1,h2⟩:=zoO (stops:=stops) (k:=k) (tm:=tm) (l1:=l1) (l2:=l2) (l3:=l3) (l4:=l4) (l5:=l5) (l6:=l6) (a:=a) (b:=b) hp hw ht hst hS hx ha;exact ⟨T,Lp.done h1,h2⟩
  | false=>
   obtain ⟨T,h1,h2⟩:=zoP (stops:=stops) (k:=k) (tm:=tm) (l1:=l1) (l2:=l2) (l3:=l3) (l4:=l4) (l5:=l5) (l6:=l6) (a:=a) (b:=b) hp hw ht hst hS hx ha (.inl (by omega));exact ⟨T,Lp.done h1,h2⟩
 | succ n ih=>
  intro k tm l1 l2 l3 l4 l5 l6 a b v w hk htm hx;unfold zkk;cases ha:zl3 t stop (v,w,()) with
  | true=>
   obtain ⟨T,h1,h2⟩:=zoO (stops:=stops) (k:=k) (tm:=tm) (l1:=l1) (l2:=l2) (l3:=l3) (l4:=l4) (l5:=l5) (l6:=l6) (a:=a) (b:=b) hp hw ht hst hS hx ha;exact ⟨T,Lp.done h1,h2⟩
  | false=>
   cases hd:zpI p way t st stop (v,w,()) with
   | none=>
    obtain ⟨T,h1,h2⟩:=zoP (stops:=stops) (k:=k) (tm:=tm) (l1:=l1) (l2:=l2) (l3:=l3) (l4:=l4) (l5:=l5) (l6:=l6) (a:=a) (b:=b) hp hw ht hst hS hx ha (.inr hd);exact ⟨T,Lp.done h1,h2⟩
   | some d=>
    have h1:=zwt (stops:=stops) (k:=k) (tm:=tm) (l1:=l1) (l2:=l2) (l3:=l3) (l4:=l4) (l5:=l5) (l6:=l6) (a:=a) (b:=b) hp hw ht hst hS hx ha (by omega) (by omega) hd;obtain ⟨T,h2,h3⟩:=ih (k+1) (tm+100) _ _ _ _ _ _ (max a (zcS p way t st (v,w,()) d).1.2.2.1) (max b (zcS p way t st (v,w,()) d).1.2.2.2.1) (zcS p way t st (v,w,()) d).1.1.1 (zcS p way t st (v,w,()) d).1.1.2.1 (by omega) (by omega) (zlU hp hw ht hst hS hx hd).1;exact ⟨T,Lp.step h1 h2,h3⟩
theorem zx6 (hx:zl4 t stop x):∃ L X,zbg (zi5 p way t st stops) x stop=some (match zkk p way t st stop 36000 0 (0,0,0,0,0,0,()) 0 0 x with | some (g,y)=>(g,y,true) | none=>(L,X,false)):=by
 obtain ⟨T,h1,h2⟩:=zt2 (stops:=stops) hp hw ht hst hS 36000 0 0 0 0 0 0 0 0 0 0 x.1 x.2.1 (by omega) (by omega) hx;have hB:=h1.big (by simp only [big]; omega);have e:zbg (zi5 p way t st stops) x stop=zw4 T:=(congrArg (λo=>Zb o zw4) hB);rw [e];have e2:((x.1,x.2.1,()):zb)=x:=rfl;rw [e2] at h2;cases hl:zkk p way t st stop 36000 0 (0,0,0,0,0,0,()) 0 0 x with
 | some g=>rw [hl] at h2; exact ⟨default,default,h2⟩
 | none=>
  rw [hl] at h2;obtain ⟨L,X,h2⟩:=h2;exact ⟨L,X,h2⟩
end
end Go.Ai.Sx
/- Motion: the reference's leg. -/
namespace Go.Ai.Sx
open Option renaming bind->Zb,bind_some->Zs
def zlV (p_0:Plan) (p_1:List zH) (p_2:Train) (p_3:Int) (p_4:List Int) (i_281:Int) (x286:Int):(Int×Int×Int×Int×Int×Int×Int×Int×Int×Int×Int×Int)->Option ((Int×Int×Int×Int×Int×Int×Int×Int×Int×Int×Int×Int)⊕((Train×zb×Int×(List Int)×Int×Int×Int×Int×Bool×Int×Int×Int×Int×Int×Int×Int×Int×Int×Int×Int)⊕((List Leg)×Bool×Int×Int×Int×Int×Int×Int×Int×Int×Int×Int×Int))):=(λs371=>
cond (decide (s371.2.2.2.2.2.2.2.2.2.2.1>0)) (cond (s371.1==36000) (some (.inr (.inr ([],false,s371.2.1,s371.2.2.1,s371.2.2.2.1,s371.2.2.2.2.1,s371.2.2.2.2.2.1,s371.2.2.2.2.2.2.1,s371.2.2.2.2.2.2.2.1,s371.2.2.2.2.2.2.2.2.1,s371.2.2.2.2.2.2.2.2.2.1,s371.2.2.2.2.2.2.2.2.2.2.1,s371.2.2.2.2.2.2.2.2.2.2.2)))) (cond (decide (s371.2.2.2.2.2.2.2.2.2.2.2>10000000000000000)) (some (.inr (.inr ([],false,s371.2.1,s371.2.2.1,s371.2.2.2.1,s371.2.2.2.2.1,s371.2.2.2.2.2.1,s371.2.2.2.2.2.2.1,s371.2.2.2.2.2.2.2.1,s371.2.2.2.2.2.2.2.2.1,s371.2.2.2.2.2.2.2.2.2.1,s371.2.2.2.2.2.2.2.2.2.2.1,s371.2.2.2.2.2.2.2.2.2.2.2)))) (Zb (zcb ((p_0,p_1,p_2,p_3,x286,()):z8) (s371.2.2.2.2.2.2.2.2.2.2.1,s371.2.2.2.2.2.2.2.2.2.2.2,())) λy385=>
cond (!y385.2) (some (.inr (.inr ([],false,s371.2.1,s371.2.2.1,s371.2.2.2.1,s371.2.2.2.2.1,s371.2.2.2.2.2.1,s371.2.2.2.2.2.2.1,s371.2.2.2.2.2.2.2.1,s371.2.2.2.2.2.2.2.2.1,s371.2.2.2.2.2.2.2.2.2.1,s371.2.2.2.2.2.2.2.2.2.2.1,s371.2.2.2.2.2.2.2.2.2.2.2)))) (Zb (zL p_2 (s371.2.2.2.2.2.2.2.2.2.2.1,s371.2.2.2.2.2.2.2.2.2.2.2,())) λy389=>
Zb (za0 ((p_0,p_1,p_2,p_3,x286,()):z8) y389) λy390=>
Zb (zbA p_2 (s371.2.2.2.2.2.2.2.2.2.2.1,s371.2.2.2.2.2.2.2.2.2.2.2,()) y385.1 y390 p_3) λy391=>
Zb (zaD p_2 (s371.2.2.2.2.2.2.2.2.2.2.1,s371.2.2.2.2.2.2.2.2.2.2.2,()) y385.1 y390 p_3) λy392=>
Zb (zeh (s371.2.2.1,s371.2.2.2.1,s371.2.2.2.2.1,s371.2.2.2.2.2.1,s371.2.2.2.2.2.2.1,s371.2.2.2.2.2.2.2.1,()) y392.2.1) λy395=>
some (.inl ((w64 (s371.1+1)),(w64 (s371.2.1+100)),y395.1,y395.2.1,y395.2.2.1,y395.2.2.2.1,y395.2.2.2.2.1,y395.2.2.2.2.2.1,(max s371.2.2.2.2.2.2.2.2.1 y391.1),(max s371.2.2.2.2.2.2.2.2.2.1 y391.2),y392.1.1,y392.1.2.1)))))) (Zb (zL p_2 (s371.2.2.2.2.2.2.2.2.2.2.1,s371.2.2.2.2.2.2.2.2.2.2.2,())) λy396=>
Zb (idx p_4 i_281) λx397=>
cond (decide (y396<(w64 (x397-1000)))) (cond (s371.1==36000) (some (.inr (.inr ([],false,s371.2.1,s371.2.2.1,s371.2.2.2.1,s371.2.2.2.2.1,s371.2.2.2.2.2.1,s371.2.2.2.2.2.2.1,s371.2.2.2.2.2.2.2.1,s371.2.2.2.2.2.2.2.2.1,s371.2.2.2.2.2.2.2.2.2.1,s371.2.2.2.2.2.2.2.2.2.2.1,s371.2.2.2.2.2.2.2.2.2.2.2)))) (cond (decide (s371.2.2.2.2.2.2.2.2.2.2.2>10000000000000000)) (some (.inr (.inr ([],false,s371.2.1,s371.2.2.1,s371.2.2.2.1,s371.2.2.2.2.1,s371.2.2.2.2.2.1,s371.2.2.2.2.2.2.1,s371.2.2.2.2.2.2.2.1,s371.2.2.2.2.2.2.2.2.1,s371.2.2.2.2.2.2.2.2.2.1,s371.2.2.2.2.2.2.2.2.2.2.1,s371.2.2.2.2.2.2.2.2.2.2.2)))) (Zb (zcb ((p_0,p_1,p_2,p_3,x286,()):z8) (s371.2.2.2.2.2.2.2.2.2.2.1,s371.2.2.2.2.2.2.2.2.2.2.2,())) λy403=>
cond (!y403.2) (some (.inr (.inr ([],false,s371.2.1,s371.2.2.1,s371.2.2.2.1,s371.2.2.2.2.1,s371.2.2.2.2.2.1,s371.2.2.2.2.2.2.1,s371.2.2.2.2.2.2.2.1,s371.2.2.2.2.2.2.2.2.1,s371.2.2.2.2.2.2.2.2.2.1,s371.2.2.2.2.2.2.2.2.2.2.1,s371.2.2.2.2.2.2.2.2.2.2.2)))) (Zb (zL p_2 (s371.2.2.2.2.2.2.2.2.2.2.1,s371.2.2.2.2.2.2.2.2.2.2.2,())) λy407=>
Zb (za0 ((p_0,p_1,p_2,p_3,x286,()):z8) y407) λy408=>
Zb (zbA p_2 (s371.2.2.2.2.2.2.2.2.2.2.1,s371.2.2.2.2.2.2.2.2.2.2.2,()) y403.1 y408 p_3) λy409=>
Zb (zaD p_2 (s371.2.2.2.2.2.2.2.2.2.2.1,s371.2.2.2.2.2.2.2.2.2.2.2,()) y403.1 y408 p_3) λy410=>
Zb (zeh (s371.2.2.1,s371.2.2.2.1,s371.2.2.2.2.1,s371.2.2.2.2.2.1,s371.2.2.2.2.2.2.1,s371.2.2.2.2.2.2.2.1,()) y410.2.1) λy413=>
some (.inl ((w64 (s371.1+1)),(w64 (s371.2.1+100)),y413.1,y413.2.1,y413.2.2.1,y413.2.2.2.1,y413.2.2.2.2.1,y413.2.2.2.2.2.1,(max s371.2.2.2.2.2.2.2.2.1 y409.1),(max s371.2.2.2.2.2.2.2.2.2.1 y409.2),y410.1.1,y410.1.2.1)))))) (some (.inr (.inl (p_2,(s371.2.2.2.2.2.2.2.2.2.2.1,s371.2.2.2.2.2.2.2.2.2.2.2,()),y396,p_4,i_281,x397,x397,(w64 (x397-1000)),(decide (y396<(w64 (x397-1000)))),s371.2.1,s371.2.2.1,s371.2.2.2.1,s371.2.2.2.2.1,s371.2.2.2.2.2.1,s371.2.2.2.2.2.2.1,s371.2.2.2.2.2.2.2.1,s371.2.2.2.2.2.2.2.2.1,s371.2.2.2.2.2.2.2.2.2.1,s371.2.2.2.2.2.2.2.2.2.2.1,s371.2.2.2.2.2.2.2.2.2.2.2))))))
def zpJ (p_2:Train) (a_281:List Leg) (i_281:Int):((Train×zb×Int×(List Int)×Int×Int×Int×Int×Bool×Int×Int×Int×Int×Int×Int×Int×Int×Int×Int×Int)⊕((List Leg)×Bool×Int×Int×Int×Int×Int×Int×Int×Int×Int×Int×Int))->Option (((List Leg)×Int×Int×Int)⊕(((List Leg)×Int×Int)⊕((List Leg)×Bool))):=λt414=>
alt (λb416=>Zb (zL p_2 (b416.2.2.2.2.2.2.2.2.2.2.2.2.2.2.2.2.2.2.1,b416.2.2.2.2.2.2.2.2.2.2.2.2.2.2.2.2.2.2.2,())) λy418=>
Zb (zda 80 a_281 ([(b416.2.2.2.2.2.2.2.2.2.1,y418,(b416.2.2.2.2.2.2.2.2.2.2.1,b416.2.2.2.2.2.2.2.2.2.2.2.1,b416.2.2.2.2.2.2.2.2.2.2.2.2.1,b416.2.2.2.2.2.2.2.2.2.2.2.2.2.1,b416.2.2.2.2.2.2.2.2.2.2.2.2.2.2.1,b416.2.2.2.2.2.2.2.2.2.2.2.2.2.2.2.1,()),b416.2.2.2.2.2.2.2.2.2.2.2.2.2.2.2.2.1,b416.2.2.2.2.2.2.2.2.2.2.2.2.2.2.2.2.2.1,())])) λx419=>
some (.inl (x419,(w64 (i_281+1)),b416.2.2.2.2.2.2.2.2.2.2.2.2.2.2.2.2.2.2.1,b416.2.2.2.2.2.2.2.2.2.2.2.2.2.2.2.2.2.2.2))) (λb417=>some (.inr (.inr (b417.1,b417.2.1)))) t414
section
variable {p:Plan} {way:List zH} {t:Train} {st:Int} {stops:List Int} {x:zb} (hp:zim p) (hw:zho p way) (ht:zka t) (hst:0<=st/\st<t.2.2.2.2.2.2.2.2.2.1.length) {stop:Int} (hS:stop<=1000000000) {i:Int} (hi:idx stops i=some stop) (hi0:0<=i/\i<=1000000) (hs0:0<=stop)
include hp hw ht hst hS hi hi0 hs0
section
variable {k:Nat} {tm l1 l2 l3 l4 l5 l6 a b v w:Int} (hx:zl4 t stop (v,w,()))
include hx
theorem zm8 (ha:zl3 t stop (v,w,())=true):∃ T,zlV p way t st stops i stop ((k:Int),tm,l1,l2,l3,l4,l5,l6,a,b,v,w)=some (.inr T)/\∀ acc:List Leg,acc.length<=1000000->zpJ t acc i T=some (.inl (acc++[(tm,zA t (v,w,()),(l1,l2,l3,l4,l5,l6,()),a,b,())],w64 (i+1),v,w)):=by
 obtain ⟨_,_,e0,h0⟩:=zgV (stops:=stops) (st:=st) (p:=p) (way:=way) ht hS hx;have hs:=hx.s;unfold zl3 at ha;rw [Bool.and_eq_true,beq_iff_eq,decide_eq_true_eq] at ha;obtain ⟨ha1,ha2⟩:=ha;have ha1:v=0:=ha1;subst ha1;unfold zlV;simp only [e0,Zs,decide_eq_false (show ¬ (0:Int)>0 by omega),cond_false,hi,ze (n:=stop-1000) (by omega) (by omega),decide_eq_false (show ¬ zA t (0,w,())<stop-1000 by omega)];refine ⟨_,rfl,λacc hacc=>?_⟩;unfold zpJ;simp only [zby,e0,Zs];rw [zaQ (by simp; omega),Zs]
theorem zm9 (ha:zl3 t stop (v,w,())=false) (hk:k=36000\/zpI p way t st stop (v,w,())=none):∃ T,zlV p way t st stops i stop ((k:Int),tm,l1,l2,l3,l4,l5,l6,a,b,v,w)=some (.inr T)/\∀ acc:List Leg,zpJ t acc i T=some (.inr (.inr ([],false))):=by
 obtain ⟨hso,_,e0,h0⟩:=zgV (stops:=stops) (st:=st) (p:=p) (way:=way) ht hS hx;have hs:=hx.s;have hm:=ht.m;have hxw:10*t.1<=w/\w<=1000000000000000:=hx.w;have hxp:0<=v/\v<=25000*t.1:=hx.p;have hc:=zm7 hp hw ht hst hx.p (show 10*t.1<=((v,w,()):zb).2.1/\((v,w,()):zb).2.1<=500000000000000000 from ⟨by show _<=w; omega,by show w<=_; omega⟩) stop;unfold zlV;by_cases hv:v=0
 . subst hv;have hlt:zA t (0,w,())<stop-1000:=by
    unfold zl3 at ha;rw [show (((0,w,()):zb).1==0)=true from rfl,Bool.true_and,decide_eq_false_iff_not] at ha;omega
   simp only [e0,Zs,decide_eq_false (show ¬ (0:Int)>0 by omega),cond_false,hi,ze (n:=stop-1000) (by omega) (by omega),decide_eq_true hlt,cond_true];by_cases hk0:k=36000
   . subst hk0;exact ⟨_,rfl,λacc=>rfl⟩
   . have hkb:((k:Int)==36000)=false:=by simp; omega
     have hd:=hk.resolve_left hk0;rw [hd] at hc;simp only [hkb,cond_false,decide_eq_false (show ¬ w>10000000000000000 by omega),hc,Zs,Bool.not_false,cond_true];exact ⟨_,rfl,λacc=>rfl⟩
 . simp only [decide_eq_true (show v>0 by omega),cond_true];by_cases hk0:k=36000
   . subst hk0;exact ⟨_,rfl,λacc=>rfl⟩
   . have hkb:((k:Int)==36000)=false:=by simp; omega
     have hd:=hk.resolve_left hk0;rw [hd] at hc;simp only [hkb,cond_false,decide_eq_false (show ¬ w>10000000000000000 by omega),hc,Zs,Bool.not_false,cond_true];exact ⟨_,rfl,λacc=>rfl⟩
theorem zt3 (ha:zl3 t stop (v,w,())=false) (hk:k<36000) (htm:0<=tm/\tm<=3600000) {d:Int} (hd:zpI p way t st stop (v,w,())=some d):zlV p way t st stops i stop ((k:Int),tm,l1,l2,l3,l4,l5,l6,a,b,v,w)=some (.inl (((k+1:Nat):Int),tm+100,(zn4 (l1,l2,l3,l4,l5,l6,()) (zcS p way t st (v,w,()) d).1.2.1).1,(zn4 (l1,l2,l3,l4,l5,l6,()) (zcS p way t st (v,w,()) d).1.2.1).2.1,(zn4 (l1,l2,l3,l4,l5,l6,()) (zcS p way t st (v,w,()) d).1.2.1).2.2.1,(zn4 (l1,l2,l3,l4,l5,l6,()) (zcS p way t st (v,w,()) d).1.2.1).2.2.2.1,(zn4 (l1,l2,l3,l4,l5,l6,()) (zcS p way t st (v,w,()) d).1.2.1).2.2.2.2.1,(zn4 (l1,l2,l3,l4,l5,l6,()) (zcS p way t st (v,w,()) d).1.2.1).2.2.2.2.2.1,max a (zcS p way t st (v,w,()) d).1.2.2.1,max b (zcS p way t st (v,w,()) d).1.2.2.2.1,(zcS p way t st (v,w,()) d).1.1.1,(zcS p way t st (v,w,()) d).1.1.2.1)):=by
 obtain ⟨hso,_,e0,h0⟩:=zgV (stops:=stops) (st:=st) (p:=p) (way:=way) ht hS hx;have hs:=hx.s;have hm:=ht.m;have hxw:10*t.1<=w/\w<=1000000000000000:=hx.w;have hxp:0<=v/\v<=25000*t.1:=hx.p;have hc:=zm7 hp hw ht hst hx.p (show 10*t.1<=((v,w,()):zb).2.1/\((v,w,()):zb).2.1<=500000000000000000 from ⟨by show _<=w; omega,by show w<=_; omega⟩) stop;have hkb:((k:Int)==36000)=false:=by simp; omega
 rw [hd] at hc;obtain ⟨_,q2,q3⟩:=zj4 hd;have hfin:znW t st d (zeM p way (zA t (v,w,()))):=⟨hst,by omega,zgU hp hw ht hso _⟩;have hsl:=zfT (st:=st) (stop:=stop) hp hw ht (show 0<=zA t (v,w,())/\zA t (v,w,())<=4000000000000000000 by omega);have hpw:zbA t (v,w,()) d (zeM p way (zA t (v,w,()))) st=some ((zcS p way t st (v,w,()) d).1.2.2.1,(zcS p way t st (v,w,()) d).1.2.2.2.1):=zxY ht hfin hso;have hsp:zaD t (v,w,()) d (zeM p way (zA t (v,w,()))) st=some ((zcS p way t st (v,w,()) d).1.1,(zcS p way t st (v,w,()) d).1.2.1,(zcS p way t st (v,w,()) d).2):=zlF ht hfin hso;have hsm:∀ l m:z5,zeh l m=some (zn4 l m):=λl m=>rfl;unfold zlV;by_cases hv:v=0
 . subst hv;have hlt:zA t (0,w,())<stop-1000:=by
    unfold zl3 at ha;rw [show (((0,w,()):zb).1==0)=true from rfl,Bool.true_and,decide_eq_false_iff_not] at ha;omega
   simp only [e0,Zs,decide_eq_false (show ¬ (0:Int)>0 by omega),cond_false,hi,ze (n:=stop-1000) (by omega) (by omega),decide_eq_true hlt,cond_true,hkb,decide_eq_false (show ¬ w>10000000000000000 by omega),hc,Bool.not_true,hsl,hpw,hsp,hsm,zx (show k<9223372036854775807 by omega),ze (n:=tm+100) (by omega) (by omega)]
 . simp only [e0,Zs,decide_eq_true (show v>0 by omega),cond_true,cond_false,hkb,decide_eq_false (show ¬ w>10000000000000000 by omega),hc,Bool.not_true,hsl,hpw,hsp,hsm,zx (show k<9223372036854775807 by omega),ze (n:=tm+100) (by omega) (by omega)]
end
theorem zrG:∀ (n k:Nat) (tm l1 l2 l3 l4 l5 l6 a b v w:Int),k+n=36000->tm=100*k->zl4 t stop (v,w,())->∃ T,Lp (zlV p way t st stops i stop) n ((k:Int),tm,l1,l2,l3,l4,l5,l6,a,b,v,w) T/\∀ acc:List Leg,acc.length<=1000000->zpJ t acc i T=some (match zkk p way t st stop n tm (l1,l2,l3,l4,l5,l6,()) a b (v,w,()) with | some (g,y)=>.inl (acc++[g],w64 (i+1),y.1,y.2.1) | none=>.inr (.inr ([],false))):=by
 intro n;induction n with
 | zero=>
  intro k tm l1 l2 l3 l4 l5 l6 a b v w hk htm hx;unfold zkk;cases ha:zl3 t stop (v,w,()) with
  | true=>
   obtain ⟨T,h1,h2⟩:=zm8 (k:=k) (tm:=tm) (l1:=l1) (l2:=l2) (l3:=l3) (l4:=l4) (l5:=l5) (l6:=l6) (a:=a) (b:=b) hp hw ht hst hS hi hi0 hs0 hx ha;exact ⟨T,Lp.done h1,h2⟩
  | false=>
   obtain ⟨T,h1,h2⟩:=zm9 (k:=k) (tm:=tm) (l1:=l1) (l2:=l2) (l3:=l3) (l4:=l4) (l5:=l5) (l6:=l6) (a:=a) (b:=b) hp hw ht hst hS hi hi0 hs0 hx ha (.inl (by omega));exact ⟨T,Lp.done h1,λacc _=>h2 acc⟩
 | succ n ih=>
  intro k tm l1 l2 l3 l4 l5 l6 a b v w hk htm hx;unfold zkk;cases ha:zl3 t stop (v,w,()) with
  | true=>
   obtain ⟨T,h1,h2⟩:=zm8 (k:=k) (tm:=tm) (l1:=l1) (l2:=l2) (l3:=l3) (l4:=l4) (l5:=l5) (l6:=l6) (a:=a) (b:=b) hp hw ht hst hS hi hi0 hs0 hx ha;exact ⟨T,Lp.done h1,h2⟩
  | false=>
   cases hd:zpI p way t st stop (v,w,()) with
   | none=>
    obtain ⟨T,h1,h2⟩:=zm9 (k:=k) (tm:=tm) (l1:=l1) (l2:=l2) (l3:=l3) (l4:=l4) (l5:=l5) (l6:=l6) (a:=a) (b:=b) hp hw ht hst hS hi hi0 hs0 hx ha (.inr hd);exact ⟨T,Lp.done h1,λacc _=>h2 acc⟩
   | some d=>
    have h1:=zt3 (k:=k) (tm:=tm) (l1:=l1) (l2:=l2) (l3:=l3) (l4:=l4) (l5:=l5) (l6:=l6) (a:=a) (b:=b) hp hw ht hst hS hi hi0 hs0 hx ha (by omega) (by omega) hd;obtain ⟨T,h2,h3⟩:=ih (k+1) (tm+100) _ _ _ _ _ _ (max a (zcS p way t st (v,w,()) d).1.2.2.1) (max b (zcS p way t st (v,w,()) d).1.2.2.2.1) (zcS p way t st (v,w,()) d).1.1.1 (zcS p way t st (v,w,()) d).1.1.2.1 (by omega) (by omega) (zlU hp hw ht hst hS hx hd).1;exact ⟨T,Lp.step h1 h2,h3⟩
theorem zwu (hx:zl4 t stop x) (acc:List Leg) (hacc:acc.length<=1000000):Zb (iter (zlV p way t st stops i stop) big (0,0,0,0,0,0,0,0,0,0,x.1,x.2.1)) (zpJ t acc i)=some (match zkk p way t st stop 36000 0 (0,0,0,0,0,0,()) 0 0 x with | some (g,y)=>.inl (acc++[g],w64 (i+1),y.1,y.2.1) | none=>.inr (.inr ([],false))):=by
 obtain ⟨T,h1,h2⟩:=zrG hp hw ht hst hS hi hi0 hs0 36000 0 0 0 0 0 0 0 0 0 0 x.1 x.2.1 (by omega) (by omega) hx;have hB:=h1.big (by simp only [big]; omega);rw [show ((0:Nat):Int)=0 from rfl] at hB;rw [hB,Zs];exact h2 acc hacc
end
end Go.Ai.Sx
/- Motion: a run begins. -/
namespace Go.Ai.Sx
open Option renaming bind->Zb,bind_some->Zs
def zdf (stops:List Int) (k:Nat):Int:=stops.getD k 0
def zx7 (stops:List Int):Bool:=(List.range (stops.length-1)).all λk=>!decide (zdf stops (k+1)<=zdf stops k)
def zeG (p:Plan) (way:List zH) (t:Train) (st:Int) (stops:List Int):Bool:=
 zaH p&&(zkb p way&&(trB t&&(inB st 0 (t.2.2.2.2.2.2.2.2.2.1.length-1)&&(inB (zq stops) 2 100&&(!decide (zdf stops 0<t.2.1)&&(zx7 stops&&decide (zdf stops (stops.length-1)<=wlS p way)))))))
theorem zoQ {stops:List Int} (hl:2<=stops.length/\stops.length<=100) {τ:Type} (r0 r1:τ) {F:Int->Option (Int⊕τ)}
 (hF:∀ s,F s=cond (decide (s<(zq stops))) (Zb (idx stops s) λx37=>
Zb (idx stops (w64 (s-1))) λx38=>
cond (decide (x37<=x38)) (some (.inr r0)) (some (.inl (w64 (s+1))))) (some (.inr r1))):iter F big 1=some (if zx7 stops then r1 else r0):=by
 refine zeE (λk=>((k+1:Nat):Int)) (stops.length-1) (λk=>!decide (zdf stops (k+1)<=zdf stops k)) r0 r1 rfl (by simp only [big]; omega) (λk hk=>?_) ?_
 . rw [hF,zM (show k+1<stops.length by omega),cond_true,zz 0 (by omega),Zs,show w64 (((k+1:Nat):Int)-1)=(k:Int) by rw [ze (by omega) (by omega)]; omega,zz 0 (by omega),Zs,zx (by omega)];show cond (decide (zdf stops (k+1)<=zdf stops k)) _ _=_;cases decide (zdf stops (k+1)<=zdf stops k)<;>rfl
 . rw [hF,show stops.length-1+1=stops.length by omega,zW]; rfl
theorem zlW {A:Type} (n:Nat) (f:Nat->A):rlN (n+1) f=rlN n f++[f n]:=by
 unfold rlN;rw [List.range_succ,List.map_append]; rfl
theorem zrH {stops:List Int} (hl:2<=stops.length/\stops.length<=100):idx stops (w64 (zq stops-1))=some (zdf stops (stops.length-1)):=by
 rw [zw,show w64 ((stops.length:Int)-1)=((stops.length-1:Nat):Int) by rw [ze (by omega) (by omega)]; omega];exact zz 0 (by omega)
theorem zt4 {p:Plan} {way:List zH} {t:Train} (hv:zaH p=true) (hp:zim p) (hw:zho p way):iter (σ:=(Int×Int×(List Int)×(List Int)×(List Int))) (τ:=((List Int)×(List Int)×(List Int))⊕((Option zav)×Bool×(List Int)×(List Int)×(List Int))) (λs110=>
cond (decide (s110.2.1<(zq way))) (Zb (idx way s110.2.1) λx113=>
Zb (zbS p x113.1) λy115=>
cond (y115.2 !=0) (some (.inr (.inr ((none:Option zav),false,s110.2.2.2.2,s110.2.2.2.1,s110.2.2.1)))) (Zb (idx p.2.1 x113.1) λx117=>
cond (x113.2.1) (Zb (zda 8 s110.2.2.2.2 ([(w64 (s110.1+y115.1))])) λx126=>
Zb (zda 8 s110.2.2.2.1 ([x117.2.2.2.1])) λx128=>
Zb (zda 8 s110.2.2.1 ([(w64 (0-x117.2.2.2.2.1))])) λx130=>
some (.inl ((w64 (s110.1+y115.1)),(w64 (s110.2.1+1)),x130,x128,x126))) (Zb (zda 8 s110.2.2.2.2 ([(w64 (s110.1+y115.1))])) λx138=>
Zb (zda 8 s110.2.2.2.1 ([x117.2.2.2.1])) λx140=>
Zb (zda 8 s110.2.2.1 ([x117.2.2.2.2.1])) λx142=>
some (.inl ((w64 (s110.1+y115.1)),(w64 (s110.2.1+1)),x142,x140,x138))))) (some (.inr (.inl (s110.2.2.2.2,s110.2.2.2.1,s110.2.2.1))))) big (0,0,[],[],[])=some (.inl (zfS p way,zm1 p way,zm2 p way)):=by
  have hn:=hw.n;have key:∀ (k i:Nat),i+k=way.length->Lp (σ:=(Int×Int×(List Int)×(List Int)×(List Int))) (τ:=((List Int)×(List Int)×(List Int))⊕((Option zav)×Bool×(List Int)×(List Int)×(List Int))) (λs110=>
cond (decide (s110.2.1<(zq way))) (Zb (idx way s110.2.1) λx113=>
Zb (zbS p x113.1) λy115=>
cond (y115.2 !=0) (some (.inr (.inr ((none:Option zav),false,s110.2.2.2.2,s110.2.2.2.1,s110.2.2.1)))) (Zb (idx p.2.1 x113.1) λx117=>
cond (x113.2.1) (Zb (zda 8 s110.2.2.2.2 ([(w64 (s110.1+y115.1))])) λx126=>
Zb (zda 8 s110.2.2.2.1 ([x117.2.2.2.1])) λx128=>
Zb (zda 8 s110.2.2.1 ([(w64 (0-x117.2.2.2.2.1))])) λx130=>
some (.inl ((w64 (s110.1+y115.1)),(w64 (s110.2.1+1)),x130,x128,x126))) (Zb (zda 8 s110.2.2.2.2 ([(w64 (s110.1+y115.1))])) λx138=>
Zb (zda 8 s110.2.2.2.1 ([x117.2.2.2.1])) λx140=>
Zb (zda 8 s110.2.2.1 ([x117.2.2.2.2.1])) λx142=>
some (.inl ((w64 (s110.1+y115.1)),(w64 (s110.2.1+1)),x142,x140,x138))))) (some (.inr (.inl (s110.2.2.2.2,s110.2.2.2.1,s110.2.2.1))))) k (zbe p way i,(i:Int),rlN i (zgD p way),rlN i (zkj p way),rlN i (λj=>zbe p way (j+1))) (.inl (zfS p way,zm1 p way,zm2 p way)):=by
    intro k;induction k with
    | zero=>
      intro i hi;have:i=way.length:=by omega
      subst this;refine Lp.done ?_;simp only [zW,cond_false];rfl
    | succ k ih=>
      intro i hi;have hil:i<way.length:=by omega
      have hb:=zgT hp hw (i:=i) (by omega);have hb1:=zgT hp hw (i:=i+1) (by omega);have hsx:=zgS p way i;have hml:mvl p way i=zg7 p (way.getD i M0).1:=rfl;have hwe:w64 (zbe p way i+zg7 p (way.getD i M0).1)=zbe p way (i+1):=by
        rw [← hml,← hsx,ze (by omega) (by omega)]
      obtain ⟨_,hs,hr⟩:=zlR hp hw hil;have hh:zpV p ((way.getD i M0).1,false,())=true:=zi4.2 (hw.m i hil);have hlen:zbS p (way.getD i M0).1=some (zg7 p (way.getD i M0).1,0):=by
        rw [zrA,hv,hh]; rfl
      refine Lp.step ?_ (ih (i+1) (by omega));have a1:∀ (f:Nat->Int) (v:Int),v=f i->zda 8 (rlN i f) [v]=some (rlN (i+1) f):=λf v hvf=>by
        rw [zaQ (by simp only [zgc,List.length_singleton]; omega),zlW,hvf]
      have z0:((0:Int)!=0)=false:=rfl;simp only [zM hil,cond_true,zz M0 hil,Zs,hlen,z0,cond_false,hr,hwe,zx (show i<9223372036854775807 by omega)];have a2:=a1 (λj=>zbe p way (j+1)) (zbe p way (i+1)) rfl;have a3:=a1 (zkj p way) (zg8 p way i).2.2.2.1 rfl;simp only [a2,a3,Zs];unfold zgD at hs;cases hrv:(way.getD i M0).2.1 with
      | true=>
        rw [hrv] at hs;simp only [if_true] at hs;have e:w64 (0-(zg8 p way i).2.2.2.2.1)=zgD p way i:=by
          unfold zgD;rw [hrv,ze (by omega) (by omega),Int.zero_sub]; rfl
        simp only [a1 (zgD p way) _ e,Zs,cond_true,cond_false]
      | false=>
        have e:(zg8 p way i).2.2.2.2.1=zgD p way i:=by
          unfold zgD;rw [hrv]; rfl
        simp only [a1 (zgD p way) _ e,Zs,cond_true,cond_false]
  have hL:=(key way.length 0 (by omega)).big (by simp only [big]; omega);exact hL
theorem zoR (p:Plan) (way:List zH) (t:Train) (st:Int) (stops:List Int) (hwl:way.length<=9223372036854775807) (hsl:stops.length<=9223372036854775807):zdn p way t st stops=some (if zeG p way t st stops then (some (zi5 p way t st stops),true) else (none,false)):=by
 unfold zdn zeG;rw [zre,Zs,ziK p hwl,Zs];cases hv:zaH p with
 | false=>
  simp only [Bool.false_and,Bool.false_eq_true,if_false];cases (trB t&&inB st 0 (t.2.2.2.2.2.2.2.2.2.1.length-1))<;>rfl
 | true=>
 cases hwy:zkb p way with
 | false=>
  simp only [Bool.true_and,Bool.false_and,Bool.and_false,Bool.false_eq_true,if_false];cases (trB t&&inB st 0 (t.2.2.2.2.2.2.2.2.2.1.length-1))<;>rfl
 | true=>
 cases htr:trB t with
 | false=>rfl
 | true=>
 cases hin:inB st 0 (t.2.2.2.2.2.2.2.2.2.1.length-1) with
 | false=>rfl
 | true=>
 have hp:=zd1 hv;have hw:=zhp hwy;simp only [Bool.true_and,if_true,Bool.not_true,cond_false,show ((0:Int)!=0)=false from rfl,mwithin,Zs];cases hln:inB (zq stops) 2 100 with
 | false=>rfl
 | true=>
 have hl:=zal.1 hln;rw [zw] at hl;have hl:2<=stops.length/\stops.length<=100:=by omega
 have h0:idx stops 0=some (zdf stops 0):=zz (i:=0) 0 (by omega);simp only [Bool.not_true,cond_false,h0,Zs,zrH hl,Bool.true_and];cases decide (zdf stops 0<t.2.1) with
 | true=>rfl
 | false=>
 simp only [cond_false,Zs,Bool.not_false,Bool.true_and];by_cases hgt:zdf stops (stops.length-1)>wlS p way
 . rw [decide_eq_true hgt,decide_eq_false (show ¬ zdf stops (stops.length-1)<=wlS p way by omega),Bool.and_false]; rfl
 . rw [decide_eq_false hgt,decide_eq_true (show zdf stops (stops.length-1)<=wlS p way by omega),Bool.and_true,cond_false];rw [zoQ (τ:=Unit⊕((Option zav)×Bool)) hl (.inr (none,false)) (.inl ()) (λs=>rfl),Zs];cases zx7 stops with
   | false=>rfl
   | true=>
    simp only [if_true,zby,Zs];have hB:=zt4 (t:=t) hv hp hw;exact congrArg (λo=>Zb o λt144:((List Int)×(List Int)×(List Int))⊕((Option zav)×Bool×(List Int)×(List Int)×(List Int))=>alt (λb146=>some ((some ((t,st,()),way,b146.1,b146.2.1,b146.2.2,stops,())),true)) (λb147=>some (b147.1,b147.2.1)) t144) hB
theorem zrI (p:Plan) (way:List zH) (t:Train) (st:Int) (stops:List Int) (hwl:way.length<=9223372036854775807) (hsl:stops.length<=9223372036854775807):zdX p way t st stops=some (zeG p way t st stops):=by
 unfold zdX zeG;rw [zjZ,Zs];cases hv:zaH p with
 | false=>rfl
 | true=>
 have hp:=zd1 hv;rw [zrx hp hwl,Zs];cases hwy:zkb p way with
 | false=>rfl
 | true=>
 have hw:=zhp hwy;rw [ztF,Zs];cases htr:trB t with
 | false=>rfl
 | true=>
 have ht:=znV.1 htr;simp only [Bool.not_true,cond_false,Zs,rin,wlen ht,Bool.true_and];cases hin:inB st 0 (t.2.2.2.2.2.2.2.2.2.1.length-1) with
 | false=>rfl
 | true=>
 simp only [Bool.not_true,cond_false,Zs,Bool.true_and];cases hln:inB (zq stops) 2 100 with
 | false=>rfl
 | true=>
 have hl:=zal.1 hln;rw [zw] at hl;have hl:2<=stops.length/\stops.length<=100:=by omega
 have h0:idx stops 0=some (zdf stops 0):=zz (i:=0) 0 (by omega);simp only [Bool.not_true,cond_false,h0,Zs,zrH hl,Bool.true_and];cases decide (zdf stops 0<t.2.1) with
 | true=>rfl
 | false=>
 simp only [cond_false,Zs,Bool.not_false,Bool.true_and];rw [zoQ (τ:=Unit⊕Bool) hl (.inr false) (.inl ()) (λs=>rfl),Zs];cases zx7 stops with
 | false=>rfl
 | true=>
  simp only [if_true,zby,Zs,zuE hp hw,Bool.true_and]
end Go.Ai.Sx
/- Motion: all legs. -/
namespace Go.Ai.Sx
open Option renaming bind->Zb,bind_some->Zs
def zt5 (p_2:Train) (y1:Option zav) (x7:List Int):((List Leg)×Int×Int×Int)->Option (((List Leg)×Int×Int×Int)⊕(((List Leg)×Int×Int)⊕((List Leg)×Int×Int×Int))):=(λs32=>
cond (decide (s32.2.1<(zq x7))) (Zb (idx x7 s32.2.1) λx35=>
Zb (y1) λp36=>
Zb (zbg p36 (s32.2.2.1,s32.2.2.2,()) x35) λy37=>
cond (!y37.2.2) (some (.inr (.inr ([],4,s32.2.2.1,s32.2.2.2)))) (cond (decide (s32.2.2.2>10000000000000000)) (some (.inr (.inr ([],4,s32.2.2.1,s32.2.2.2)))) (Zb (zda 80 s32.1 ([y37.1])) λx44=>
some (.inl (x44,(w64 (s32.2.1+1)),y37.2.1.1,y37.2.1.2.1))))) (some (.inr (.inl (s32.1,s32.2.2.1,s32.2.2.2)))))
def zoS (p_0:Plan) (p_1:List zH) (p_2:Train) (p_3:Int) (p_4:List Int):((List Leg)×Int×Int×Int)->Option (((List Leg)×Int×Int×Int)⊕(((List Leg)×Int×Int)⊕((List Leg)×Bool))):=λs281=>
cond (decide (s281.2.1<(zq p_4))) (Zb (idx p_4 s281.2.1) λx286=>
Zb (iter (zlV p_0 p_1 p_2 p_3 p_4 s281.2.1 x286) big (0,0,0,0,0,0,0,0,0,0,s281.2.2.1,s281.2.2.2)) (zpJ p_2 s281.1 s281.2.1)) (some (.inr (.inl (s281.1,s281.2.2.1,s281.2.2.2))))
section
variable (p:Plan) (way:List zH) (t:Train) (st:Int)
def zkc:List Int->zb->Option (List Leg×zb)
 | [],x=>some ([],x)
 | s::r,x=>match zkk p way t st s 36000 0 (0,0,0,0,0,0,()) 0 0 x with
  | none=>none
  | some (g,y)=>match zkc r y with
   | none=>none
   | some (gs,z)=>some (g::gs,z)
end
structure RunOk (p:Plan) (way:List zH) (t:Train) (st:Int) (stops:List Int):Prop where
 hp:zim p
 hw:zho p way
 ht:zka t
 hst:0<=st/\st<t.2.2.2.2.2.2.2.2.2.1.length
 hn:2<=stops.length/\stops.length<=100
 h0:t.2.1<=zdf stops 0
 up:∀ k,k+1<stops.length->zdf stops k<zdf stops (k+1)
 la:zdf stops (stops.length-1)<=wlS p way
 b:wlS p way<=248000000
section
variable {p:Plan} {way:List zH} {t:Train} {st:Int} {stops:List Int} (R:RunOk p way t st stops)
include R
theorem zoT {i j:Nat} (h:i<=j) (hj:j<stops.length):zdf stops i<=zdf stops j:=by
 induction j with
 | zero=>rw [show i=0 by omega]; omega
 | succ j ih=>
  by_cases e:i=j+1
  . subst e; omega
  . have h1:=ih (by omega) (by omega);have h2:=R.up j hj;omega
theorem zrJ {i:Nat} (hi:i<stops.length):1<=zdf stops i/\zdf stops i<=248000000:=by
 have h1:=zoT R (Nat.zero_le i) hi;have h2:=zoT R (i:=i) (j:=stops.length-1) (by omega) (by omega);have:=R.h0;have:=R.la;have:=R.b;have:=R.ht.len;omega
theorem zoU {stop:Int} (hS:stop<=1000000000):∀ (n:Nat) (tm:Int) (l:z5) (a b:Int) (x:zb) (g:Leg) (y:zb),zl4 t stop x->zkk p way t st stop n tm l a b x=some (g,y)->zl4 t stop y:=by
 intro n;induction n with
 | zero=>
  intro tm l a b x g y hx h;unfold zkk at h;split at h
  . cases h; exact hx
  . cases h
 | succ n ih=>
  intro tm l a b x g y hx h;unfold zkk at h;split at h
  . cases h; exact hx
  . cases hd:zpI p way t st stop x with
    | none=>rw [hd] at h; cases h
    | some d=>
     rw [hd] at h;exact ih _ _ _ _ _ _ _ (zlU R.hp R.hw R.ht R.hst hS hx hd).1 h
theorem zl4.up {s s':Int} {x:zb} (h:zl4 t s x) (hs:s<=s'):zl4 t s' x:=⟨h.p,h.w,by have:=h.s; omega⟩
theorem zx8 {i:Nat} (h:i+1<stops.length):stops.drop (i+1)=zdf stops (i+1)::stops.drop (i+2):=by
 rw [List.drop_eq_getElem_cons h];congr 1;unfold zdf;simp [h]
theorem zt6:∀ (k i:Nat) (acc:List Leg) (x:zb),i+k+1=stops.length->acc.length<=i->zl4 t (zdf stops i) x->∃ T,Lp (zt5 t (some (zi5 p way t st stops)) (stops.drop 1)) k (acc,(i:Int),x.1,x.2.1) T/\(match zkc p way t st (stops.drop (i+1)) x with | some (gs,z)=>T=.inl (acc++gs,z.1,z.2.1) | none=>∃ v w,T=.inr ([],4,v,w)):=by
 have hn:=R.hn;intro k;induction k with
 | zero=>
  intro i acc x hi hacc hx;refine ⟨.inl (acc,x.1,x.2.1),Lp.done ?_, ?_⟩
  ·unfold zt5;have:(stops.drop 1).length=i:=by rw [List.length_drop]; omega
   subst this;simp only [zW,cond_false]
  ·rw [List.drop_of_length_le (by omega)];unfold zkc;simp only [List.append_nil]
 | succ k ih=>
  intro i acc x hi hacc hx;have hi1:i+1<stops.length:=by omega
  have hb:=zrJ R hi1;have hup:=R.up i hi1;have hxn:=zl4.up R hx (s':=zdf stops (i+1)) (by omega);have hw:x.2.1<=1000000000000000:=hx.w.2;have hdl:(stops.drop 1).length=stops.length-1:=by rw [List.length_drop]
  have hix:idx (stops.drop 1) (i:Int)=some (zdf stops (i+1)):=by
   rw [zz 0 (by omega)];congr 1;unfold zdf;simp [List.getD,Nat.add_comm]
  rw [zx8 R hi1];obtain ⟨L,X,hleg⟩:=zx6 (stops:=stops) R.hp R.hw R.ht R.hst (stop:=zdf stops (i+1)) (by omega) hxn;unfold zkc;cases hl:zkk p way t st (zdf stops (i+1)) 36000 0 (0,0,0,0,0,0,()) 0 0 x with
  | none=>
   rw [hl] at hleg;refine ⟨.inr ([],4,x.1,x.2.1),Lp.done ?_,⟨_,_,rfl⟩⟩;unfold zt5;simp only [zM (show i<(stops.drop 1).length by omega),cond_true,hix,Zs];show (Zb (zbg (zi5 p way t st stops) x (zdf stops (i+1))) _:Option _)=_;rw [hleg]; rfl
  | some gy=>
   obtain ⟨g,y⟩:=gy;rw [hl] at hleg;have hy:=zoU R (by omega) _ _ _ _ _ _ _ _ hxn hl;obtain ⟨T,h1,h2⟩:=ih (i+1) (acc++[g]) y (by omega) (by simp; omega) hy;refine ⟨T,Lp.step ?_ h1, ?_⟩
   ·unfold zt5;simp only [zM (show i<(stops.drop 1).length by omega),cond_true,hix,Zs];show (Zb (zbg (zi5 p way t st stops) x (zdf stops (i+1))) _:Option _)=_;rw [hleg,Zs];simp only [Bool.not_true,cond_false,decide_eq_false (show ¬ x.2.1>10000000000000000 by omega)];rw [zaQ (by simp; omega),Zs,zx (by omega)]
   ·simp only [];rw [show i+1+1=i+2 by omega] at h2;cases hd:zkc p way t st (stops.drop (i+2)) y with
    | none=>rw [hd] at h2; exact h2
    | some gz=>
     rw [hd] at h2;simp only [] at h2 ⊢;rw [h2,List.append_assoc]; rfl
theorem zrK:∀ (k i:Nat) (acc:List Leg) (x:zb),i+k+1=stops.length->acc.length<=i->zl4 t (zdf stops i) x->∃ T,Lp (zoS p way t st stops) k (acc,((i+1:Nat):Int),x.1,x.2.1) T/\(match zkc p way t st (stops.drop (i+1)) x with | some (gs,z)=>T=.inl (acc++gs,z.1,z.2.1)/\z.2.1<=1000000000000000 | none=>T=.inr ([],false)):=by
 have hn:=R.hn;intro k;induction k with
 | zero=>
  intro i acc x hi hacc hx;refine ⟨.inl (acc,x.1,x.2.1),Lp.done ?_, ?_⟩
  ·unfold zoS;have:stops.length=i+1:=by omega
   rw [← this];simp only [zW,cond_false]
  ·rw [List.drop_of_length_le (by omega)];unfold zkc;simp only [List.append_nil];exact ⟨trivial,hx.w.2⟩
 | succ k ih=>
  intro i acc x hi hacc hx;have hi1:i+1<stops.length:=by omega
  have hb:=zrJ R hi1;have hup:=R.up i hi1;have hxn:=zl4.up R hx (s':=zdf stops (i+1)) (by omega);have hw:x.2.1<=1000000000000000:=hx.w.2;have hix:idx stops ((i+1:Nat):Int)=some (zdf stops (i+1)):=zz 0 hi1;rw [zx8 R hi1];have hleg:=zwu (stops:=stops) (i:=((i+1:Nat):Int)) R.hp R.hw R.ht R.hst (stop:=zdf stops (i+1)) (by omega) hix (by omega) (by omega) hxn acc (by omega);unfold zkc;cases hl:zkk p way t st (zdf stops (i+1)) 36000 0 (0,0,0,0,0,0,()) 0 0 x with
  | none=>
   rw [hl] at hleg;refine ⟨.inr ([],false),Lp.done ?_,rfl⟩;unfold zoS;simp only [zM hi1,cond_true,hix,Zs];exact hleg
  | some gy=>
   obtain ⟨g,y⟩:=gy;rw [hl] at hleg;have hy:=zoU R (by omega) _ _ _ _ _ _ _ _ hxn hl;obtain ⟨T,h1,h2⟩:=ih (i+1) (acc++[g]) y (by omega) (by simp; omega) hy;refine ⟨T,Lp.step ?_ h1, ?_⟩
   ·unfold zoS;simp only [zM hi1,cond_true,hix,Zs];rw [zx (by omega)] at hleg;exact hleg
   ·simp only [];rw [show i+1+1=i+2 by omega] at h2;cases hd:zkc p way t st (stops.drop (i+2)) y with
    | none=>rw [hd] at h2; exact h2
    | some gz=>
     rw [hd] at h2;simp only [] at h2 ⊢;refine ⟨?_,h2.2⟩;rw [h2.1,List.append_assoc]; rfl
def st0 (t:Train) (stops:List Int):zb:=(0,10*t.1*zdf stops 0,())
theorem zoV:w64 (w64 (10*t.1)*zdf stops 0)=(st0 t stops).2.1/\zl4 t (zdf stops 0) (st0 t stops):=by
 have hm:=R.ht.m;have hn:=R.hn;have hb:=zrJ R (i:=0) (by omega);have h1:=zcc (a:=10*t.1) (b:=zdf stops 0) (A:=800000) (B:=248000000) ⟨by omega,by omega⟩ ⟨by omega,by omega⟩;refine ⟨?_,⟨by show (0:Int)<=0; omega,by show (0:Int)<=_; omega⟩,⟨?_,by show 10*t.1*zdf stops 0<=_; omega⟩, ?_⟩
 . rw [ze (n:=10*t.1) (by omega) (by omega),ze (by omega) (by omega)]; rfl
 . show 10*t.1<=10*t.1*zdf stops 0;have h9:10*t.1*1<=10*t.1*zdf stops 0:=Int.mul_le_mul_of_nonneg_left hb.1 (by omega);omega
 . show 10*t.1*zdf stops 0/(10*t.1)<=zdf stops 0;rw [Int.mul_ediv_cancel_left _ (by omega)];omega
def zgZ (p:Plan) (way:List zH) (t:Train) (st:Int) (stops:List Int):Option (List Leg):=(zkc p way t st (stops.drop 1) (st0 t stops)).map (·.1)
theorem zrL (hsb:zeG p way t st stops=true):zbT p way t st stops=some (match zgZ p way t st stops with | some gs=>(gs,0) | none=>([],4)):=by
 have hn:=R.hn;have hw:=R.hw.n;unfold zbT;rw [zoR p way t st stops (by omega) (by omega),hsb];simp only [if_true,Zs,Bool.not_true,cond_false];have h0:idx stops 0=some (zdf stops 0):=zz (i:=0) 0 (by omega);have hsl:slO stops 1 (zq stops)=some (stops.drop 1):=by
  rw [ztB (by rw [zw]; omega),zw];simp
 rw [h0,Zs,hsl,Zs,(zoV R).1];obtain ⟨T,h1,h2⟩:=zt6 R (stops.length-1) 0 [] (st0 t stops) (by omega) (by simp) (zoV R).2;have hB:=h1.big (by simp only [big]; omega);refine (congrArg (λo=>Zb o λt46:((List Leg)×Int×Int)⊕((List Leg)×Int×Int×Int)=>alt (λb48=>some (b48.1,(0:Int))) (λb49=>some (b49.1,b49.2.1)) t46) hB).trans ?_;rw [Zs];unfold zgZ;rw [Nat.zero_add] at h2;cases hd:zkc p way t st (stops.drop 1) (st0 t stops) with
 | some gz=>
  rw [hd] at h2;simp only [] at h2;rw [h2]; rfl
 | none=>
  rw [hd] at h2;obtain ⟨v,w,h2⟩:=h2;rw [h2]; rfl
theorem zpK:zdY p way t st stops=some (match zgZ p way t st stops with | some gs=>(gs,true) | none=>([],false)):=by
 have hn:=R.hn;have hw:=R.hw.n;have h0:idx stops 0=some (zdf stops 0):=zz (i:=0) 0 (by omega);obtain ⟨T,h1,h2⟩:=zrK R (stops.length-1) 0 [] (st0 t stops) (by omega) (by simp) (zoV R).2;have hB:=h1.big (by simp only [big]; omega);rw [← (zoV R).1] at hB;unfold zdY;rw [h0,Zs];refine (congrArg (λo=>Zb o λt421:((List Leg)×Int×Int)⊕((List Leg)×Bool)=>alt (λb423=>some (b423.1,(decide (b423.2.2<=10000000000000000)))) (λb424=>some (b424.1,b424.2)) t421) hB).trans ?_;rw [Zs];unfold zgZ;rw [Nat.zero_add] at h2;cases hd:zkc p way t st (stops.drop 1) (st0 t stops) with
 | some gz=>
  rw [hd] at h2;simp only [] at h2;rw [h2.1];simp only [zby,decide_eq_true (show gz.2.2.1<=10000000000000000 by have:=h2.2; omega)];rfl
 | none=>
  rw [hd] at h2;simp only [] at h2;rw [h2]; rfl
end
end Go.Ai.Sx
/- Motion: the law of the drive. -/
namespace Go.Ai.Sx
open Option renaming bind->Zb,bind_some->Zs
theorem zrM {l:List Leg} (hl:l.length<=1000):zaK l (λx=>zem x)=some (l.map (·.1)):=by
  unfold zaK;have hL:=zcv (f:=λs7:List Int×Int=>
cond (decide (s7.2<(zq l))) (Zb (idx l s7.2) λx10=>
Zb (zem x10) λy12=>
Zb (zda 8 s7.1 ([y12])) λx13=>
some (.inl (x13,(w64 (s7.2+1))))) (some (.inr s7.1))) l (λi b=>(b,(i:Int))) (λ_ b c=>(.inl (b++[c.1]):List Int⊕List Int)) (λb=>b) (λi b=>b.length=i) [] (s0:=([],0)) rfl (by omega) rfl (λi h b hb=>by
      refine ⟨?_,λb' hb'=>?_⟩
      · simp only [];rw [zM h,cond_true,zej,List.getElem?_eq_getElem h,Zs];show (Zb (some l[i].1) _:Option _)=_;rw [Zs,zaQ (by simp; omega),Zs,zx (by omega)]
      · cases hb'; simp; omega) (λb _=>by simp only [zW,cond_false])
  rw [hL,ze3,Zs];have:∀ (l:List Leg) (b:List Int),l.foldl (λb c=>b++[c.1]) b=b++l.map (·.1):=by
    intro l;induction l with
    | nil=>intro b; simp
    | cons a l ih=>intro b; rw [List.foldl_cons,ih]; simp
  rw [this]; rfl
theorem zrN {p:Plan} {way:List zH} {t:Train} {st:Int} {stops:List Int} {gs:List Leg} {e:Int} (h:zbT p way t st stops=some (gs,e)) (hl:gs.length<=1000):zbI p way t st stops=some (if e=0 then (gs.map (·.1),0) else ([],e)):=by
 unfold zbI;rw [h,Zs];by_cases h0:e=0
 . subst h0;simp only [show ((0:Int)!=0)=false from rfl,cond_false,zrM hl,Zs];rfl
 . have hb:(e !=0)=true:=by simpa using h0
   simp only [hb,cond_true];rw [if_neg h0]
section
variable {p:Plan} {way:List zH} {t:Train} {st:Int} {stops:List Int} (R:RunOk p way t st stops)
include R
omit R in
theorem zoW:∀ {r:List Int} {x:zb} {gs:List Leg} {z:zb},zkc p way t st r x=some (gs,z)->gs.length=r.length
 | [],x,gs,z,h=>by unfold zkc at h; cases h; rfl
 | s::r,x,gs,z,h=>by
  unfold zkc at h;cases hl:zkk p way t st s 36000 0 (0,0,0,0,0,0,()) 0 0 x with
  | none=>rw [hl] at h; cases h
  | some gy=>
   rw [hl] at h;simp only [] at h;cases hd:zkc p way t st r gy.2 with
   | none=>rw [hd] at h; cases h
   | some q=>
    rw [hd] at h;cases h;have:=zoW hd;simp [this]
theorem zlX {gs:List Leg} (h:zgZ p way t st stops=some gs):gs.length=stops.length-1:=by
 unfold zgZ at h;cases hd:zkc p way t st (stops.drop 1) (st0 t stops) with
 | none=>rw [hd] at h; cases h
 | some q=>
  rw [hd] at h;cases h;rw [zoW hd,List.length_drop]
end
end Go.Ai.Sx
/- Motion: a run's times,for callers in other chapters. -/
namespace Go.Ai.Sx
open Option renaming bind->Zb,bind_some->Zs
theorem zis {p:Plan} {way:List zH} {t:Train} {st:Int} {stops:List Int} (h:zeG p way t st stops=true) (hb:wlS p way<=248000000):RunOk p way t st stops:=by
 unfold zeG at h;simp only [Bool.and_eq_true] at h;obtain ⟨h1,h2,h3,h4,h5,h6,h7,h8⟩:=h;have hp:=zd1 h1;have hw:=zhp h2;have h4:=zal.1 h4;have h5:=zal.1 h5;rw [zw] at h5;refine ⟨hp,hw,znV.1 h3,by omega,by omega, ?_,λk hk=>?_,of_decide_eq_true h8,hb⟩
 . rw [Bool.not_eq_true',decide_eq_false_iff_not] at h6; omega
 . unfold zx7 at h7;have:=List.all_eq_true.1 h7 k (List.mem_range.2 (by omega));rw [Bool.not_eq_true',decide_eq_false_iff_not] at this; omega
theorem zrO {p:Plan} {way:List zH} {t:Train} {st:Int} {stops:List Int} (hwl:way.length<=9223372036854775807) (hsl:stops.length<=9223372036854775807) (h:zeG p way t st stops=false):zbT p way t st stops=some ([],2):=by
 unfold zbT;rw [zoR p way t st stops hwl hsl,h];rfl
theorem zwv {p:Plan} {way:List zH} {t:Train} {st:Int} {stops:List Int} (h:zeG p way t st stops=true) (hb:wlS p way<=248000000):zbI p way t st stops=some (match zgZ p way t st stops with | some gs=>(gs.map (·.1),0) | none=>([],4)):=by
 have R:=zis h hb;have hn:=R.hn;have hd:=zrL R h;cases hl:zgZ p way t st stops with
 | none=>
  rw [hl] at hd;simp only [] at hd;rw [zrN hd (by simp)]; rfl
 | some gs=>
  rw [hl] at hd;simp only [] at hd;have hlen:=zlX R hl;rw [zrN hd (by omega)]; rfl
theorem zx9 {p:Plan} {way:List zH} {t:Train} {st:Int} {stops:List Int} (hwl:way.length<=9223372036854775807) (hsl:stops.length<=9223372036854775807) (h:zeG p way t st stops=false):zbI p way t st stops=some ([],2):=by
 rw [zrN (zrO hwl hsl h) (by simp)]; rfl
end Go.Ai.Sx
/- Motion: how long legs take. -/
namespace Go.Ai.Sx
open Option renaming bind->Zb,bind_some->Zs
section
variable {p:Plan} {way:List zH} {t:Train} {st:Int} {stops:List Int}
theorem zuH {stop:Int}:∀ (n:Nat) (tm:Int) (l:z5) (a b:Int) (x:zb) (g:Leg) (y:zb),zkk p way t st stop n tm l a b x=some (g,y)->tm<=g.1/\g.1<=tm+100*n
 | 0,tm,l,a,b,x,g,y,h=>by
  unfold zkk at h;split at h
  . cases h; simp
  . cases h
 | n+1,tm,l,a,b,x,g,y,h=>by
  unfold zkk at h;split at h
  . cases h; simp only []; omega
  . split at h
    . cases h
    . have:=zuH n _ _ _ _ _ _ _ h;omega
theorem zuI:∀ {r:List Int} {x:zb} {gs:List Leg} {z:zb},zkc p way t st r x=some (gs,z)->∀ g∈gs,0<=g.1/\g.1<=3600000
 | [],x,gs,z,h=>by unfold zkc at h; cases h; simp
 | s::r,x,gs,z,h=>by
  unfold zkc at h;cases hl:zkk p way t st s 36000 0 (0,0,0,0,0,0,()) 0 0 x with
  | none=>rw [hl] at h; cases h
  | some gy=>
   rw [hl] at h;simp only [] at h;cases hd:zkc p way t st r gy.2 with
   | none=>rw [hd] at h; cases h
   | some q=>
    rw [hd] at h;cases h;intro g hg;rcases List.mem_cons.1 hg with rfl | hg
    ·have:=zuH 36000 0 _ _ _ _ gy.1 gy.2 hl;omega
    ·exact zuI hd g hg
theorem zww {gs:List Leg} (h:zgZ p way t st stops=some gs):∀ g∈gs,0<=g.1/\g.1<=3600000:=by
 unfold zgZ at h;cases hd:zkc p way t st (stops.drop 1) (st0 t stops) with
 | none=>rw [hd] at h; cases h
 | some q=>
  rw [hd] at h;cases h;exact zuI hd
end
end Go.Ai.Sx
/- Service: numbers modulo others,departures. -/
namespace Go.Ai.Sx
open Option renaming bind->Zb,bind_some->Zs
theorem zrP {n h:Int} (hh:0<h):-h<n.tmod h/\n.tmod h<h:=⟨by
 by_cases hn:0<=n
 . have:=Int.tmod_nonneg h hn; omega
 . have h1:(-n).tmod h<h:=Int.tmod_lt_of_pos _ hh;rw [Int.neg_tmod] at h1;omega,Int.tmod_lt_of_pos _ hh⟩
theorem zwx {n h:Int} (hh:0<h):(n.tmod h+h).tmod h=n%h:=by
 have hb:=zrP (n:=n) hh;rw [Int.tmod_eq_emod_of_nonneg (by omega),Int.add_emod_right];have e:=Int.tmod_add_mul_tdiv n h;have e2:n=n.tmod h+h*n.tdiv h:=e.symm
 conv=>rhs; rw [e2]
 rw [Int.add_mul_emod_self_left]
theorem zwy {n h:Int} (hh:0<h) (h2:h<=1000000000000):(Zb (zps n h) λx=>zps (w64 (x+h)) h)=some (n%h):=by
 have hb:=zrP (n:=n) hh;unfold zps;rw [if_neg (by omega),Zs,if_neg (by omega),ze (by omega) (by omega),zwx hh]
theorem zya {a n:Int}:a+(-a)%n=-((-a)/n)*n:=by
 have:=Int.emod_add_mul_ediv (-a) n;rw [Int.neg_mul,Int.mul_comm ((-a)/n) n];omega
theorem zzT {a n:Int} (hn:0<n):(a+(-a)%n)/n=-((-a)/n):=by
 rw [zya,Int.mul_ediv_cancel _ (by omega)]
theorem zrQ {base start h:Int}:start+(base-start)%h=base+-((base-start)/h)*h:=by
 have:=Int.emod_add_mul_ediv (base-start) h;rw [Int.neg_mul,Int.mul_comm ((base-start)/h) h];omega
theorem zwz {r h:Int} (hh:0<h):((r+h-1)/h-1)*h<r/\r<=(r+h-1)/h*h:=by
 have h1:=Int.emod_add_mul_ediv (r+h-1) h;have h2:=Int.emod_nonneg (r+h-1) (show h≠0 by omega);have h3:=Int.emod_lt_of_pos (r+h-1) hh;rw [Int.sub_mul,Int.one_mul,Int.mul_comm ((r+h-1)/h) h];omega
theorem zyb {k h:Int} (hh:0<h):(k*h).tdiv h=k:=by
 rw [Int.mul_tdiv_cancel _ (by omega)]
end Go.Ai.Sx