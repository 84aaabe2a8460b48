/- Tracks: which moves follow; ways and their lengths. -/
import Derived.Test.YtppebpagcocogaaGreatU13
set_option linter.unusedSimpArgs false
set_option linter.unusedVariables false
set_option linter.unusedSectionVars false
namespace Go.Ai.Sx
open Option renaming bind->Zb,bind_some->Zs
def zi8 (m:zM):zl:=(m.1,!m.2.1,())
def zbN (p:Plan) (m:zM):zcb:=nd p (atS p (zi8 m))
def zn3 (p:Plan) (m:zM):Int:=((zbN p m).2.2.1.idxOf (zi8 m):Nat)
def zdn (p:Plan) (m k:zM):Bool:=(zbN p m).2.2.1.zipIdx.any λy=>ziL (zbN p m) (zn3 p m) (y.2:Int)&&y.1==k
def zts (e:zl):Int:=if e.2.1 then 2*e.1+1 else 2*e.1
def zqW (n:Int):zM:=(n/2,n%2==1,())
theorem zpR {e:zl} (h:0<=e.1):zqW (zts e)=e:=by
 obtain ⟨r,b,⟨⟩⟩:=e;unfold zqW zts;simp only [] at h;cases b with
 | false=>
  simp only [Bool.false_eq_true,if_false];rw [show 2*r/2=r by omega,show 2*r%2=0 by omega]; rfl
 | true=>
  simp only [if_true];rw [show (2*r+1)/2=r by omega,show (2*r+1)%2=1 by omega]; rfl
theorem zsx {e:zl} (h:0<=e.1/\e.1<1000):zdw (e.1,e.2.1,())=some (zts e):=by
 unfold zdw zts;simp only [];cases e.2.1 with
 | false=>
  simp only [cond_false,Bool.false_eq_true,if_false];rw [zh (by omega) (by omega)]
 | true=>
  simp only [cond_true,if_true];rw [zh (n:=2*e.1) (by omega) (by omega),zh (by omega) (by omega)]
theorem zxM {n:Int} (h:0<=n/\n<10000):zeG n=some (zqW n):=by
 unfold zeG;rw [zbV (by omega) (by omega),Zs];unfold zl5;rw [if_neg (by omega),Zs,Int.tmod_eq_emod_of_nonneg h.1];rfl
section
variable {p:Plan} (hp:zi7 p) {m:zM} (hm:0<=m.1/\m.1<p.2.1.length)
include hp hm
theorem znG:0<=atS p (zi8 m)/\atS p (zi8 m)<p.1.length:=hp.at_bd (e:=zi8 m) hm
theorem zkn:nodeB (zbN p m)=true:=hp.nodeB (znG hp hm)
theorem zoY:zi8 m∈(zbN p m).2.2.1:=hp.mem (e:=zi8 m) hm
theorem zvM:0<=zn3 p m/\zn3 p m<(zbN p m).2.2.1.length/\zn3 p m<=10:=by
 have h1:=List.idxOf_lt_length_iff.2 (zoY hp hm);have h2:=zeN (zkn hp hm);unfold zn3;omega
theorem zjq {e:zl} (he:e∈(zbN p m).2.2.1):0<=e.1/\e.1<p.2.1.length:=by
 have hb:=znG hp hm;have h:=hp.at_ (atS p (zi8 m)).toNat (by omega);unfold zbN at he;rw [hp.nd_eq hb] at he;exact (h e he).1
theorem zsy:mget (plS p) (zi8 m)=some (zn3 p m):=by
 have hb:=znG hp hm;have h1:=List.idxOf_lt_length_iff.2 (zoY hp hm);have hn:zbN p m=p.1[(atS p (zi8 m)).toNat]'(by omega):=hp.nd_eq hb;have h2:=zxJ hp (i:=(atS p (zi8 m)).toNat) (k:=(zbN p m).2.2.1.idxOf (zi8 m)) (by omega) (by rw [← hn]; exact h1);have h3:(p.1[(atS p (zi8 m)).toNat]'(by omega)).2.2.1[(zbN p m).2.2.1.idxOf (zi8 m)]'(by rw [← hn]; exact h1)=zi8 m:=by
  simp only [← hn];exact List.getElem_idxOf h1
 rw [h3] at h2;exact h2
def zmq (p:Plan) (m:zM):List Int:=((zbN p m).2.2.1.zipIdx.filter λy=>ziL (zbN p m) (zn3 p m) (y.2:Int)).map λy=>zts y.1
omit hm hp in
theorem zsz:(zmq p m).length<=(zbN p m).2.2.1.length:=by
 unfold zmq;rw [List.length_map];have:=List.length_filter_le (λy:zl×Nat=>ziL (zbN p m) (zn3 p m) (y.2:Int)) (zbN p m).2.2.1.zipIdx;rw [List.length_zipIdx] at this;exact this
theorem zu1 {n:Int} (h:n∈zmq p m):0<=n/\n<10000:=by
 unfold zmq at h;obtain ⟨y,hy,rfl⟩:=List.mem_map.1 h;have h1:=(List.mem_filter.1 hy).1;have h2:=zjq hp hm (e:=y.1) (List.fst_mem_of_mem_zipIdx h1);have hR:=hp.r;unfold zts;split<;>omega
theorem zsA:iter (σ:=((List Int)×Int)) (τ:=(List Int)) (λs20=>
cond (decide (s20.2<(zm (zbN p m).2.2.1))) (Zb (idx (zbN p m).2.2.1 s20.2) λx23=>
Zb (zd3 m) λy27=>
Zb (za8 ((zbN p m,()):zao) ((mget (zoX p).2.2.1 y27).getD 0) s20.2) λy28=>
cond (y28) (Zb (zdw ((x23.1,x23.2.1,()):zM)) λy30=>
Zb (zdp 8 s20.1 ([y30])) λx31=>
some (.inl (x31,(w64 (s20.2+1))))) (some (.inl (s20.1,(w64 (s20.2+1)))))) (some (.inr s20.1))) big ([],0)=some (zmq p m):=by
 have hR:=hp.r;have hes:=zeN (zkn hp hm);have hpb:=zvM hp hm;rw [zcE (s0:=(([]:List Int),(0:Int))) (zbN p m).2.2.1 (λk c=>(c,(k:Int))) (λk c e=>(.inl (if ziL (zbN p m) (zn3 p m) (k:Int) then c++[zts e] else c):List Int⊕List Int)) id (λk c=>c.length<=k) [] rfl (by omega) (by simp)]
 ·rw [zkh (λk c e=>if ziL (zbN p m) (zn3 p m) (k:Int) then c++[zts e] else c) id];unfold zmq;have key:∀ (L:List (zl×Nat)) (c:List Int),L.foldl (λc y=>if ziL (zbN p m) (zn3 p m) (y.2:Int) then c++[zts y.1] else c) c=c++(L.filter λy=>ziL (zbN p m) (zn3 p m) (y.2:Int)).map λy=>zts y.1:=by
   intro L;induction L with
   | nil=>intro c; simp
   | cons y L ih=>
    intro c;rw [List.foldl_cons,ih,List.filter_cons];cases ziL (zbN p m) (zn3 p m) (y.2:Int) with
    | true=>simp
    | false=>simp
  rw [key,List.nil_append]; rfl
 ·intro k hk c hc;simp only [];refine ⟨?_,λb' hb=>?_⟩
  ·have he:=zjq hp hm (List.getElem_mem hk);rw [zF hk,cond_true,zbD hk,Zs];show Zb (some (zi8 m)) _=_;rw [Zs];have hpl:(zoX p).2.2.1=plS p:=rfl;rw [hpl,zsy hp hm,Option.getD_some,zxL (zkn hp hm) ⟨hpb.1,hpb.2.2⟩ (by omega),Zs,zsx (e:=(zbN p m).2.2.1[k]) ⟨he.1,by omega⟩,Zs,zaF (by simp only [List.length_singleton]; omega),Zs,zy (by omega)];cases ziL (zbN p m) (zn3 p m) (k:Int)<;>rfl
  ·cases hb;split
   ·rw [List.length_append,List.length_singleton]; omega
   ·omega
 ·intro c _;simp only [];rw [zG,cond_false]; rfl
theorem zqG (k:zM):zaJ (zoX p) m k=some (zdn p m k):=by
  have hb:=znG hp hm;have hes:=zeN (zkn hp hm);have hlen:=zsz (p:=p) (m:=m);obtain ⟨ys,hy,hperm⟩:=zsv (xs:=zmq p m) (by omega);unfold zaJ zcs zbk;rw [Zs];simp only [];show Zb (Zb (some (zi8 m)) _) _=_;rw [Zs];have hend:=(zh4 (p:=(zoX p).1) (e:=zi8 m) hm).1;have hpl:atS (zoX p).1 (zi8 m)=atS p (zi8 m):=rfl;rw [hend,Zs,hpl];have hn:idx (zoX p).1.1 (atS p (zi8 m))=some (zbN p m):=zbg (l:=p.1) (d:=N0) hb.1 hb.2;rw [hn,Zs,zsA hp hm,Zs,hy,Zs];have hys:∀ n∈ys,0<=n/\n<10000:=λn h=>zu1 hp hm (hperm.mem_iff.1 h);have hyl:ys.length<=4:=by have:=hperm.length_eq; omega
  have key:iter (σ:=(Int×(Bool⊕Bool))) (τ:=(Bool⊕Bool)⊕(Bool⊕Bool)) (λs50=>
cond (decide (s50.1<(zm ys))) (Zb (idx ys s50.1) λx53=>
Zb (zeG x53) λy54=>
Zb (goL s50.2) λs55=>
Zb (cond (y54==k) (some (.inr true)) (some (.inl s55))) λy56=>
cond (!(y56).isLeft) (some (.inr (.inr y56))) (some (.inl ((w64 (s50.1+1)),y56)))) (some (.inr (.inl s50.2)))) big (0,(.inl false))=some (if ys.any (λn=>zqW n==k) then .inr (.inr true) else .inl (.inl false)):=by
    rw [zcE (s0:=((0:Int),(Sum.inl false:Bool⊕Bool))) ys (λi (_:Unit)=>((i:Int),(Sum.inl false:Bool⊕Bool))) (λ_ _ n=>if zqW n==k then .inr (.inr (.inr true)) else .inl ()) (λ_=>.inl (.inl false)) (λ_ _=>True) () rfl (by omega) trivial]
    · congr 1;have:∀ (l:List Int) (i:Nat),ze2 (λ_ (_:Unit) n=>if zqW n==k then .inr (.inr (.inr true)) else .inl ()) (λ_=>.inl (.inl false)) l i ()=(if l.any (λn=>zqW n==k) then .inr (.inr true) else .inl (.inl false):(Bool⊕Bool)⊕(Bool⊕Bool)):=by
        intro l;induction l with
        | nil=>intro i; rfl
        | cons n l ih=>
          intro i;rw [ze2,List.any_cons];cases h:(zqW n==k) with
          | true=>rfl
          | false=>
            simp only [Bool.false_eq_true,if_false,Bool.false_or];exact ih (i+1)
      exact this ys 0
    · intro i hi _ _;refine ⟨?_,λ_ _=>trivial⟩;simp only [];rw [zF hi,cond_true,zbD hi,Zs,zxM (hys _ (List.getElem_mem hi)),Zs,zy (by omega)];cases (zqW ys[i]==k)<;>rfl
    · intro _ _;simp only [];rw [zG,cond_false]
  rw [key];have hany:ys.any (λn=>zqW n==k)=zdn p m k:=by
    have h1:ys.any (λn=>zqW n==k)=(zmq p m).any (λn=>zqW n==k):=by
      rw [Bool.eq_iff_iff,List.any_eq_true,List.any_eq_true];constructor
      · rintro ⟨n,h,q⟩; exact ⟨n,hperm.mem_iff.1 h,q⟩
      · rintro ⟨n,h,q⟩; exact ⟨n,hperm.mem_iff.2 h,q⟩
    rw [h1];unfold zmq zdn;rw [Bool.eq_iff_iff,List.any_eq_true,List.any_eq_true];constructor
    · rintro ⟨n,h,q⟩
      obtain ⟨y,hy,rfl⟩:=List.mem_map.1 h;obtain ⟨hy1,hy2⟩:=List.mem_filter.1 hy;rw [zpR (zjq hp hm (List.fst_mem_of_mem_zipIdx hy1)).1] at q;exact ⟨y,hy1,by rw [hy2,q]; rfl⟩
    · rintro ⟨y,h,q⟩
      rw [Bool.and_eq_true] at q;refine ⟨zts y.1,List.mem_map.2 ⟨y,List.mem_filter.2 ⟨h,q.1⟩,rfl⟩, ?_⟩;rw [zpR (zjq hp hm (List.fst_mem_of_mem_zipIdx h)).1];exact q.2
  rw [hany];cases zdn p m k<;>rfl
omit hp hm in
theorem znH (n:zcb) (e:zl) (hl:n.2.2.1.length<=1000):zdk n e=some (if e∈n.2.2.1 then ((n.2.2.1.idxOf e:Nat):Int) else -1):=by
  unfold zdk;have key:∀ (k i:Nat),i+k=n.2.2.1.length->Lp (λs5:Int=>
cond (decide (s5<(zm n.2.2.1))) (Zb (idx n.2.2.1 s5) λx9=>
cond (x9==e) (some (Sum.inr (Sum.inr s5:Unit⊕Int))) (some (.inl (w64 (s5+1))))) (some (.inr (.inl ())))) k (i:Int) (if e∈n.2.2.1.drop i then .inr ((i+(n.2.2.1.drop i).idxOf e:Nat):Int) else .inl ()):=by
    intro k;induction k with
    | zero=>
      intro i hi;have:i=n.2.2.1.length:=by omega
      subst this;rw [List.drop_length,if_neg (by simp)];exact Lp.done (by simp only [zG,cond_false])
    | succ k ih=>
      intro i hi;have hlt:i<n.2.2.1.length:=by omega
      rw [List.drop_eq_getElem_cons hlt];by_cases hx:n.2.2.1[i]=e
      · rw [if_pos (by rw [hx]; exact List.mem_cons_self),hx,List.idxOf_cons_self];refine Lp.done ?_;rw [zF hlt,cond_true,zbD hlt,Zs,hx,beq_self_eq_true]; rfl
      · have hb:(n.2.2.1[i]==e)=false:=by simpa using hx
        have h2:=ih (i+1) (by omega);have hmem:(e∈n.2.2.1[i]::n.2.2.1.drop (i+1))↔e∈n.2.2.1.drop (i+1):=by
          rw [List.mem_cons];exact ⟨λh=>h.resolve_left (λq=>hx q.symm),.inr⟩
        have hix:(n.2.2.1[i]::n.2.2.1.drop (i+1)).idxOf e=(n.2.2.1.drop (i+1)).idxOf e+1:=by rw [List.idxOf_cons,hb,cond_false]
        rw [hix];have e2:(if e∈n.2.2.1[i]::n.2.2.1.drop (i+1) then (Sum.inr ((i+((n.2.2.1.drop (i+1)).idxOf e+1):Nat):Int):Unit⊕Int) else .inl ())=if e∈n.2.2.1.drop (i+1) then .inr ((i+1+(n.2.2.1.drop (i+1)).idxOf e:Nat):Int) else .inl ():=by
          by_cases q:e∈n.2.2.1.drop (i+1)
          · rw [if_pos (hmem.2 q),if_pos q,show i+((n.2.2.1.drop (i+1)).idxOf e+1)=i+1+(n.2.2.1.drop (i+1)).idxOf e by omega]
          · rw [if_neg (λw=>q (hmem.1 w)),if_neg q]
        rw [e2];refine Lp.step (s':=((i+1:Nat):Int)) ?_ h2;rw [zF hlt,cond_true,zbD hlt,Zs,hb,cond_false,zy (by omega)]
  have h0:=key n.2.2.1.length 0 (by omega);rw [show ((0:Nat):Int)=0 from rfl,List.drop_zero] at h0;rw [h0.big (by simp only [big]; omega),Zs];by_cases q:e∈n.2.2.1
  · rw [if_pos q,if_pos q,zoR,Nat.zero_add]
  · rw [if_neg q,if_neg q,zaG]
theorem zoZ (k:zM):zcz p m k=some (zdn p m k):=by
 have hb:=znG hp hm;have hok:=zkn hp hm;have hes:=zeN hok;have hpb:=zvM hp hm;unfold zcz;show Zb (some (zi8 m)) _=_;rw [Zs,(zh4 (p:=p) (e:=zi8 m) hm).2,Zs];have hn:idx p.1 (atS p (zi8 m))=some (zbN p m):=zbg (l:=p.1) (d:=N0) hb.1 hb.2;rw [hn,Zs];show Zb (some (zi8 m)) _=_;rw [Zs,znH _ _ (by omega),if_pos (zoY hp hm),Zs];show Zb (some (k:zl)) _=_;rw [Zs,znH _ _ (by omega)];have hpos:(((zbN p m).2.2.1.idxOf (zi8 m):Nat):Int)=zn3 p m:=rfl;rw [hpos,decide_eq_true (show zn3 p m>=0 from hpb.1)];simp only [cond_true,Zs];have hndp:(zbN p m).2.2.1.Nodup:=hp.ndn hb;by_cases hk:(k:zl)∈(zbN p m).2.2.1
 . have hlt:=List.idxOf_lt_length_iff.2 hk;rw [if_pos hk,decide_eq_true (Int.natCast_nonneg _),cond_true,zu0 _ ⟨hpb.1,hpb.2.2⟩ (by omega)];simp only [Zs];congr 1;unfold zdn;rw [Bool.eq_iff_iff,List.any_eq_true];constructor
   . intro h;refine ⟨((k:zl),(zbN p m).2.2.1.idxOf k),List.mem_zipIdx_iff_getElem?.2 (by rw [List.getElem?_eq_getElem hlt,List.getElem_idxOf]), ?_⟩;rw [Bool.and_eq_true];exact ⟨h,by simp⟩
   . rintro ⟨⟨e,j⟩,h1,h2⟩
     rw [Bool.and_eq_true,beq_iff_eq] at h2;obtain ⟨h2,h3⟩:=h2;simp only [] at h2 h3;subst h3;have hj:=List.mem_zipIdx_iff_getElem?.1 h1;obtain ⟨hj1,hj2⟩:=List.getElem?_eq_some_iff.1 hj;have:(zbN p m).2.2.1.idxOf e=j:=by
      have h4:=List.getElem_idxOf hlt;exact (List.getElem_inj hndp).1 (h4.trans hj2.symm)
     rw [this];exact h2
 . rw [if_neg hk];have:zdn p m k=false:=by
    unfold zdn;rw [List.any_eq_false]
    rintro ⟨e,j⟩ h1 h2
    rw [Bool.and_eq_true,beq_iff_eq] at h2;exact hk (h2.2▸List.fst_mem_of_mem_zipIdx h1)
   rw [this];rfl
end
end Go.Ai.Sx
/- Tracks: ways and their lengths,in the program and in the reference. -/
namespace Go.Ai.Sx
open Option renaming bind->Zb,bind_some->Zs
def zqX (p:Plan) (m:zM):Bool:=inB m.1 0 (p.2.1.length-1)
def M0:zM:=(0,false,())
def zko (p:Plan) (l:List zM) (i:Nat):Bool:=zqX p (l.getD i M0)&&(decide (i=0)||zdn p (l.getD (i-1) M0) (l.getD i M0))
def zkD (p:Plan) (l:List zM):Bool:=(List.range l.length).all (zko p l)&&inB (zm l) 1 2000
def wlS (p:Plan) (l:List zM):Int:=zib (λi=>zhb p (l.getD i M0).1) 0 l.length
theorem zjr {p:Plan} {m:zM}:zqX p m=true↔0<=m.1/\m.1<p.2.1.length:=by
 unfold zqX;rw [zI];omega
section
variable {p:Plan} (hp:zi7 p)
include hp
theorem zmr {l:List zM} (hl:l.length<=9223372036854775807) {has:zM->Option Bool} {fol:zM->zM->Option Bool} (hh:∀ m,has m=some (zqX p m)) (hf:∀ m k:zM,0<=m.1/\m.1<(p.2.1.length:Int)->fol m k=some (zdn p m k))
    {F:Int->Option (Int⊕(Unit⊕Bool))} (hF:∀ (i:Nat) (_:i<l.length),F i=Zb (has (l.getD i M0)) λy37=>cond (!y37) (some (.inr (.inr false))) (cond (decide ((i:Int)>0)) (Zb (fol (l.getD (i-1) M0) (l.getD i M0)) λy42=>cond (!y42) (some (.inr (.inr false))) (some (.inl (w64 ((i:Int)+1))))) (some (.inl (w64 ((i:Int)+1))))))
    (he:F l.length=some (.inr (.inl ()))):∀ (k i:Nat),i+k=l.length->(∀ j,j<i->zqX p (l.getD j M0)=true)->Lp F k (i:Int) (if (List.range' i k).all (zko p l) then .inl () else .inr false)
  | 0,i,hi,_=>by
    have:i=l.length:=by omega
    subst this;exact Lp.done he
  | k+1,i,hi,hj=>by
    have hlt:i<l.length:=by omega
    rw [List.range'_succ,List.all_cons];cases hs:zqX p (l.getD i M0) with
    | false=>
      have:zko p l i=false:=by unfold zko; rw [hs]; rfl
      rw [this];refine Lp.done ?_;rw [hF i hlt,hh,hs]; rfl
    | true=>
      have hj':∀ j,j<i+1->zqX p (l.getD j M0)=true:=λj h=>by
        by_cases e:j=i
        · rw [e]; exact hs
        · exact hj j (by omega)
      have ih:=zmr hl hh hf hF he k (i+1) (by omega) hj';by_cases h0:i=0
      · subst h0;have:zko p l 0=true:=by unfold zko; rw [hs]; rfl
        rw [this,Bool.true_and];refine Lp.step (s':=((0+1:Nat):Int)) ?_ ih;rw [hF 0 hlt,hh,hs]; rfl
      · have hw:zko p l i=zdn p (l.getD (i-1) M0) (l.getD i M0):=by unfold zko; rw [hs,decide_eq_false h0]; rfl
        rw [hw];have hprev:=zjr.1 (hj (i-1) (by omega));have hFi:F i=cond (!zdn p (l.getD (i-1) M0) (l.getD i M0)) (some (.inr (.inr false))) (some (.inl ((i+1:Nat):Int))):=by
          rw [hF i hlt,hh,hs,decide_eq_true (show (i:Int)>0 by omega),hf _ _ hprev,zy (by omega)]; rfl
        cases hb:zdn p (l.getD (i-1) M0) (l.getD i M0) with
        | false=>
          rw [hb] at hFi;rw [Bool.false_and];exact Lp.done hFi
        | true=>
          rw [hb] at hFi;rw [Bool.true_and];exact Lp.step hFi ih
theorem zvN (m:zM):zbq (zoX p) m=some (zqX p m):=by
 unfold zbq;rw [twithin,Zs];have:w64 (zm (zoX p).1.2.1-1)=p.2.1.length-1:=wrails hp.r;rw [this]; rfl
theorem zu2 (m:zM):zeH p m=some (zqX p m):=by
 unfold zeH;rw [zsl,Zs,wrails hp.r]; rfl
theorem zxN {l:List zM} (hl:l.length<=9223372036854775807):zb6 (zoX p) l=some (zkD p l):=by
  unfold zb6;have hL:=zmr hp hl (λm=>zvN hp m) (λm k hm=>zqG hp hm k) (F:=λs22=>
cond (decide (s22<(zm l))) (Zb (idx l s22) λx25=>
Zb (zbq (zoX p) x25) λy37=>
cond (!y37) (some (.inr (.inr false))) (cond (decide (s22>0)) (Zb (idx l (w64 (s22-1))) λx41=>
Zb (zaJ (zoX p) x41 x25) λy42=>
cond (!y42) (some (.inr (.inr false))) (some (.inl (w64 (s22+1))))) (some (.inl (w64 (s22+1)))))) (some (.inr (.inl ())))) (λi hi=>by
      rw [zF hi,cond_true,zn M0 hi,Zs];by_cases h0:i=0
      · subst h0; rfl
      · rw [decide_eq_true (show (i:Int)>0 by omega),zh (n:=(i:Int)-1) (by omega) (by omega),show (i:Int)-1=((i-1:Nat):Int) by omega,zn M0 (show i-1<l.length by omega)];rfl) (by simp only [zG,cond_false]) l.length 0 (by omega) (λj hj=>by omega)
  rw [show ((0:Nat):Int)=0 from rfl] at hL;rw [hL.big (by simp only [big]; omega),Zs,← List.range_eq_range'];unfold zkD;cases (List.range l.length).all (zko p l) with
  | false=>rfl
  | true=>simp only [if_true,zaG,twithin]; rfl
theorem zsB {l:List zM} (hl:l.length<=9223372036854775807):zep p l=some (zkD p l):=by
  unfold zep;have hL:=zmr hp hl (λm=>zu2 hp m) (λm k hm=>zoZ hp hm k) (F:=λs26=>
cond (decide (s26<(zm l))) (Zb (idx l s26) λx43=>
Zb (zeH p x43) λy44=>
cond (!y44) (some (.inr (.inr false))) (cond (decide (s26>0)) (Zb (idx l (w64 (s26-1))) λx48=>
Zb (idx l s26) λx49=>
Zb (zcz p x48 x49) λy50=>
cond (!y50) (some (.inr (.inr false))) (some (.inl (w64 (s26+1))))) (some (.inl (w64 (s26+1)))))) (some (.inr (.inl ())))) (λi hi=>by
      rw [zF hi,cond_true,zn M0 hi,Zs];by_cases h0:i=0
      · subst h0; rfl
      · rw [decide_eq_true (show (i:Int)>0 by omega),zh (n:=(i:Int)-1) (by omega) (by omega),show (i:Int)-1=((i-1:Nat):Int) by omega,zn M0 (show i-1<l.length by omega)];rfl) (by simp only [zG,cond_false]) l.length 0 (by omega) (λj hj=>by omega)
  rw [show ((0:Nat):Int)=0 from rfl] at hL;rw [hL.big (by simp only [big]; omega),Zs,← List.range_eq_range'];unfold zkD;cases (List.range l.length).all (zko p l) with
  | false=>rfl
  | true=>simp only [if_true,zaG,zsl]; rfl
structure zhv (p:Plan) (l:List zM):Prop where
 n:1<=l.length/\l.length<=2000
 m:∀ i,i<l.length->0<=(l.getD i M0).1/\(l.getD i M0).1<p.2.1.length
omit hp in
theorem ziM {l:List zM} (h:zkD p l=true):zhv p l:=by
 unfold zkD at h;rw [Bool.and_eq_true,zI,zp] at h;refine ⟨by omega,λi hi=>?_⟩;have:=List.all_eq_true.1 h.1 i (List.mem_range.2 hi);unfold zko at this;rw [Bool.and_eq_true] at this;exact zjr.1 this.1
theorem zkp {i:Int} (hi:0<=i/\i<p.2.1.length):1<=zhb p i/\zhb p i<=31000000:=hp.len hi
theorem zBx {l:List zM} (h:zhv p l):0<=wlS p l/\wlS p l<=31000000*l.length:=
 ziJ _ _ λi _ hi=>by have:=zkp hp (h.m i (by omega)); omega
theorem zsC {l:List zM} (h:zhv p l) {lg:zM->Option Int} (hg:∀ m:zM,0<=m.1/\m.1<p.2.1.length->lg m=some (zhb p m.1)):iter (σ:=(Int×Int)) (τ:=(Int)) (λs6=>
cond (decide (s6.2<(zm l))) (Zb (idx l s6.2) λx9=>
Zb (lg x9) λx12=>
some (.inl ((w64 (s6.1+x12)),(w64 (s6.2+1))))) (some (.inr s6.1))) big (0,0)=some (wlS p l):=by
  have hn:=h.n;have hL:=zmk (B:=31000000) (N:=l.length) (f:=λi=>zhb p (l.getD i M0).1) (F:=λs6:Int×Int=>
cond (decide (s6.2<(zm l))) (Zb (idx l s6.2) λx9=>
Zb (lg x9) λx12=>
some (.inl ((w64 (s6.1+x12)),(w64 (s6.2+1))))) (some (.inr s6.1))) (by omega) (by omega) (by omega) (λi hi=>by have:=zkp hp (h.m i hi); omega) l.length 0 0 (by omega) (by omega) (by omega) (λi s _ hi=>by
      simp only [];rw [zF hi,cond_true,zn M0 hi,Zs,hg _ (h.m i hi),Zs]) (λs=>by simp only [zG,cond_false])
  rw [show ((0:Nat):Int)=0 from rfl,Int.zero_add] at hL;exact hL.big (by simp only [big]; omega)
theorem zsD {i:Int} (hi:0<=i/\i<p.2.1.length):idx (zoX p).2.1 i=some (zhb p i):=by
 show idx ((List.range p.2.1.length).map λi:Nat=>zhb p (i:Int)) i=_;rw [zsd hi.1 (by rw [List.length_map,List.length_range]; exact hi.2)];simp only [List.getElem_map,List.getElem_range];rw [Int.toNat_of_nonneg hi.1]
theorem zzf {l:List zM} (h:zhv p l):zaR (zoX p) l=some (wlS p l):=by
 unfold zaR;rw [zsC hp h (lg:=λx9=>idx (zoX p).2.1 x9.1) (λm hm=>zsD hp hm)]; rfl
theorem ziN {i:Int} (hi:0<=i/\i<p.2.1.length):zaw p i=some (zhb p i):=zqD hi (hp.ix hi) (hp.spots hi).1
theorem zvO {l:List zM} (h:zhv p l):zb1 p l=some (wlS p l):=by
 unfold zb1;rw [zsC hp h (lg:=λx9=>zaw p x9.1) (λm hm=>ziN hp hm)]; rfl
end
theorem zi9 (p:Plan) {l:List zM} (hl:l.length<=9223372036854775807):zbZ p l=some (if zat p&&zkD p l then (wlS p l,0) else (0,2)):=by
 unfold zbZ;rw [zsw];cases hv:zat p with
 | false=>rfl
 | true=>
  have hp:=zdm hv;simp only [if_true,Zs,Bool.not_true,cond_false,zxN hp hl,Bool.true_and];cases hw:zkD p l with
  | false=>rfl
  | true=>
   simp only [Bool.not_true,cond_false,zzf hp (ziM hw),if_true,Zs]
theorem zsE (p:Plan) (i:Int):zbX p i=some (if zat p&&zqX p (i,false,()) then (zhb p i,0) else (0,2)):=by
 unfold zbX;rw [zsw];cases hv:zat p with
 | false=>rfl
 | true=>
  have hp:=zdm hv;simp only [if_true,Zs,Bool.not_true,cond_false,zvN hp,Bool.true_and];cases hw:zqX p (i,false,()) with
  | false=>rfl
  | true=>
   have hi:=zjr.1 hw;simp only [Bool.not_true,cond_false,zsD hp hi,if_true,Zs]
end Go.Ai.Sx
/- Motion: looking for a place in a rising row. -/
namespace Go.Ai.Sx
open Option renaming bind->Zb,bind_some->Zs
theorem zu3 (a b:Int):zaQ a b=some (decide (a<b)):=by
 unfold zaQ;simp only [zda,Zs,bne_self_eq_false,cond_false]
theorem zu4 {a b:Int} (h:0<=a+b/\a+b<4611686018427387904):zoy .u64 (IntKind.u64.wrap (w64 (a+b))) 1=some ((a+b)/2)/\w64 ((a+b)/2)=(a+b)/2:=by
 have e1:w64 (a+b)=a+b:=zh (by omega) (by omega);have e2:IntKind.u64.wrap (a+b)=a+b:=by simp only [IntKind.wrap,IntKind.bits,IntKind.signed]; simp; omega
 rw [e1,e2];unfold zoy;rw [if_pos (by omega)];refine ⟨?_,zh (by omega) (by omega)⟩;congr 1;simp [IntKind.bits];rw [Int.fdiv_eq_ediv_of_nonneg _ (by omega)]
def Rising (xs:List Int):Prop:=∀ i j,i<j->j<xs.length->xs.getD i 0<xs.getD j 0
theorem bsearch {xs:List Int} (hr:Rising xs) (hl:xs.length<=1000000) (t:Int):∃ (i:Nat) (b:Bool),zE xs t=some ((i:Int),b)/\i<=xs.length/\(∀ j,j<i->xs.getD j 0<t)/\∀ j,i<=j->j<xs.length->t<=xs.getD j 0:=by
  have hT:Tot (λr:Int=>∃ i:Nat,r=(i:Int)/\i<=xs.length/\(∀ j,j<i->xs.getD j 0<t)/\∀ j,i<=j->j<xs.length->t<=xs.getD j 0) (iter (σ:=(Int×Int)) (τ:=(Int)) (λs6=>
cond (decide (s6.1<s6.2)) (Zb (zoy .u64 (IntKind.u64.wrap (w64 (s6.1+s6.2))) 1) λx9=>
Zb (idx xs (w64 x9)) λx10=>
Zb (zaQ x10 t) λy11=>
cond (y11) (some (.inl ((w64 ((w64 x9)+1)),s6.2))) (some (.inl (s6.1,(w64 x9))))) (some (.inr s6.1))) big (0,(zm xs))):=by
    refine Tot.iter (λs:Int×Int=>∃ lo hi:Nat,s=((lo:Int),(hi:Int))/\lo<=hi/\hi<=xs.length/\(∀ j,j<lo->xs.getD j 0<t)/\∀ j,hi<=j->j<xs.length->t<=xs.getD j 0) _ (λs=>(s.2-s.1).toNat) ⟨0,xs.length,rfl,by omega,by omega,λj hj=>by omega,λj h1 h2=>by omega⟩ (by simp only [zp,big]; omega) ?_
    rintro s ⟨lo,hi,rfl,h1,h2,h3,h4⟩
    simp only [];by_cases hlt:lo<hi
    · obtain ⟨e1,e2⟩:=zu4 (a:=(lo:Int)) (b:=(hi:Int)) ⟨by omega,by omega⟩;obtain ⟨m,hm⟩:∃ m:Nat,((lo:Int)+hi)/2=(m:Int):=⟨(((lo:Int)+hi)/2).toNat,by omega⟩;rw [decide_eq_true (show (lo:Int)<hi by omega),cond_true,e1,Zs,e2,hm,zn 0 (show m<xs.length by omega),Zs,zu3,Zs];by_cases hc:xs.getD m 0<t
      · rw [decide_eq_true hc,cond_true,zy (by omega)];refine Tot.some ⟨⟨m+1,hi,rfl,by omega,h2,λj hj=>?_,h4⟩,by simp only []; omega⟩;by_cases e:j=m
        · rw [e]; exact hc
        · have:=hr j m (by omega) (by omega); omega
      · rw [decide_eq_false hc,cond_false];refine Tot.some ⟨⟨lo,m,rfl,by omega,by omega,h3,λj hj hjl=>?_⟩,by simp only []; omega⟩;by_cases e:j=m
        · rw [e]; omega
        · have:=hr m j (by omega) hjl; omega
    · have:lo=hi:=by omega
      subst this;rw [decide_eq_false (by omega),cond_false];exact Tot.some ⟨lo,rfl,by omega,h3,h4⟩
  obtain ⟨r,h1,i,rfl,h2,h3,h4⟩:=hT;have hb:∃ b:Bool,zE xs t=some ((i:Int),b):=by
    unfold zE;rw [h1,Zs];by_cases hlt:i<xs.length
    · rw [zF hlt,cond_true,zn 0 hlt,Zs];cases (xs.getD i 0==t) with
      | true=>exact ⟨true,rfl⟩
      | false=>
        simp only [cond_false,zc0,Zs,bne_self_eq_false];exact ⟨false,rfl⟩
    · rw [decide_eq_false (show ¬ (i:Int)<zm xs by rw [zp]; omega)];exact ⟨false,rfl⟩
  obtain ⟨b,hb⟩:=hb;exact ⟨i,b,hb,h2,h3,h4⟩
section
variable (p:Plan) (way:List zM)
def mvl (i:Nat):Int:=zhb p (way.getD i M0).1
def zbb (i:Nat):Int:=zib (mvl p way) 0 i
def zhc (i:Nat):Rail:=rl0 p (way.getD i M0).1
def zkN (i:Nat):Int:=(zhc p way i).2.2.2.1
def zgN (i:Nat):Int:=if (way.getD i M0).2.1 then -(zhc p way i).2.2.2.2.1 else (zhc p way i).2.2.2.2.1
def zfU:List Int:=rlN way.length λi=>zbb p way (i+1)
def znI:List Int:=rlN way.length (zkN p way)
def znJ:List Int:=rlN way.length (zgN p way)
end
theorem znK (f:Nat->Int):∀ (k a:Nat),zib f a (k+1)=zib f a k+f (a+k)
 | 0,a=>by simp [zib]
 | k+1,a=>by
  rw [zib,znK f k (a+1),zib];rw [show a+1+k=a+(k+1) by omega];omega
theorem zgZ (p:Plan) (way:List zM) (i:Nat):zbb p way (i+1)=zbb p way i+mvl p way i:=by
 unfold zbb;rw [znK,Nat.zero_add]
theorem zgg {A:Type} (n:Nat) (f:Nat->A):(rlN n f).length=n:=by unfold rlN; simp
theorem ziO {A:Type} {n:Nat} {f:Nat->A} {i:Nat} (d:A) (h:i<n):(rlN n f).getD i d=f i:=by
 unfold rlN;simp [List.getD,h]
section
variable {p:Plan} {way:List zM} (hp:zi7 p) (hw:zhv p way)
include hp hw
theorem zsF {i:Nat} (hi:i<way.length):1<=mvl p way i/\mvl p way i<=31000000:=zkp hp (hw.m i hi)
theorem zlw {i j:Nat} (h:i<j) (hj:j<=way.length):zbb p way i<zbb p way j:=by
 induction j with
 | zero=>omega
 | succ j ih=>
  have h1:=zsF hp hw (i:=j) (by omega);rw [zgZ];by_cases e:i=j
  . subst e; omega
  . have:=ih (by omega) (by omega); omega
theorem zg0 {i:Nat} (hi:i<=way.length):0<=zbb p way i/\zbb p way i<=62000000000:=by
 have h1:=ziJ (f:=mvl p way) (B:=31000000) i 0 (λj _ hj=>by have:=zsF hp hw (i:=j) (by omega); omega);have:=hw.n;unfold zbb;omega
theorem zkq:Rising (zfU p way):=by
 intro i j h hj;unfold zfU at *
 rw [zgg] at hj;rw [ziO 0 (by omega),ziO 0 hj];exact zlw hp hw (by omega) (by omega)
theorem zms {i:Nat} (hi:i<way.length):(1<=zkN p way i/\zkN p way i<=50000)/\(-120<=zgN p way i/\zgN p way i<=120)/\idx p.2.1 (way.getD i M0).1=some (zhc p way i):=by
 have hm:=hw.m i hi;have h1:=hp.rail hm;unfold zh3 zmm at h1;simp only [Bool.and_eq_true,zI] at h1;obtain ⟨⟨_,_,_,h2,h3⟩,_⟩:=h1;refine ⟨h2, ?_,zbg hm.1 hm.2⟩;unfold zgN zhc;split<;>omega
end
def ixF (f:Nat->Bool):Nat->Nat->Nat
 | 0,i=>i
 | k+1,i=>if f i then i else ixF f k (i+1)
theorem zvP {f:Nat->Bool}:∀ {k i r:Nat},i<=r->r<=i+k->(∀ j,i<=j->j<r->f j=false)->(r<i+k->f r=true)->ixF f k i=r
 | 0,i,r,h1,h2,_,_=>by unfold ixF; omega
 | k+1,i,r,h1,h2,h3,h4=>by
  unfold ixF;by_cases e:i=r
  . subst e;rw [if_pos (h4 (by omega))]
  . rw [if_neg (by rw [h3 i (Nat.le_refl i) (by omega)]; simp)];exact zvP (by omega) (by omega) (λj h5 h6=>h3 j (by omega) h6) (λh5=>h4 (by omega))
def zzg (p:Plan) (way:List zM) (f:Int):Nat:=ixF (λi=>decide (f<zbb p way (i+1))) (way.length-1) 0
def zeW (p:Plan) (way:List zM) (f:Int):Int:=zgN p way (zzg p way f)
theorem zsG {p:Plan} {way:List zM} (h:1<=way.length) (f:Int):zzg p way f<way.length:=by
 have key:∀ (g:Nat->Bool) (k i:Nat),ixF g k i<=i+k:=by
  intro g k;induction k with
  | zero=>intro i; exact Nat.le_refl _
  | succ k ih=>
   intro i;unfold ixF;split
   . omega
   . have:=ih (i+1); omega
 have:=key (λi=>decide (f<zbb p way (i+1))) (way.length-1) 0;unfold zzg;omega
def zjs (p:Plan) (way:List zM) (t:Train) (st:Int) (stops:List Int):zan:=((t,st,()),way,zfU p way,znI p way,znJ p way,stops,())
section
variable {p:Plan} {way:List zM} {t:Train} {st:Int} {stops:List Int} {x:zd} (hp:zi7 p) (hw:zhv p way) (ht:zkC t) (hx:zpI t x)
include hp hw ht hx
theorem znL:0<=zA t x/\zA t x<=4000000000000000000:=by
 have hm:=ht.m;have h:=hx.w;unfold zA;have h1:0<=x.2.1/(10*t.1):=Int.ediv_nonneg h.1 (by omega);have h2:x.2.1/(10*t.1)<=x.2.1:=Int.ediv_le_self _ h.1;omega
theorem zu5:zaA (zjs p way t st stops) x=some (zeW p way (zA t x)):=by
 have hn:=hw.n;have hpl:=znL hp hw ht hx;unfold zaA;show Zb (zR (t,st,()) x) _=_;rw [(zgK ht hx st).1,Zs];have e1:x.2.1/(10*t.1)=zA t x:=rfl;rw [e1,zh (n:=zA t x+1) (by omega) (by omega)];show Zb (zE (zfU p way) (zA t x+1)) _=_;have hel:(zfU p way).length=way.length:=by unfold zfU; rw [zgg]
 obtain ⟨i,b,h1,h2,h3,h4⟩:=bsearch (zkq hp hw) (by omega) (zA t x+1);rw [h1,Zs];show Zb (idx (znJ p way) (min (i:Int) (w64 (zm (znJ p way)-1)))) _=_;have hsl:(znJ p way).length=way.length:=by unfold znJ; rw [zgg]
 rw [zp,hsl,zh (by omega) (by omega)];have hge:∀ j,j<way.length->(zfU p way).getD j 0=zbb p way (j+1):=λj hj=>by unfold zfU; rw [ziO 0 hj]
 have hix:zzg p way (zA t x)=min i (way.length-1):=by
  unfold zzg;refine zvP (by omega) (by omega) (λj _ hj=>?_) (λhlt=>?_)
  . have:=h3 j (by omega);rw [hge j (by omega)] at this;exact decide_eq_false (by omega)
  . have:=h4 (min i (way.length-1)) (by omega) (by omega);rw [hge _ (by omega)] at this;exact decide_eq_true (by omega)
 have hmin:min (i:Int) ((way.length:Int)-1)=((min i (way.length-1):Nat):Int):=by omega
 rw [hmin,zn 0 (by omega),Zs,← hix];unfold znJ zeW;rw [ziO 0 (zsG hn.1 _)]
theorem zg1 (f:Int):-120<=zeW p way f/\zeW p way f<=120:=(zms hp hw (zsG hw.n.1 f)).2.1
end
end Go.Ai.Sx
/- Motion: a run's limit,and the reference's slope and limit. -/
namespace Go.Ai.Sx
open Option renaming bind->Zb,bind_some->Zs
def znM (g:Nat->Bool) (v:Nat->Int):Nat->Nat->Int->Int
 | 0,_,b=>b
 | k+1,i,b=>znM g v k (i+1) (if g i then min b (v i) else b)
theorem zjt (g:Nat->Bool) (v:Nat->Int) (l:Nat):∀ (k i:Nat) (b:Int),znM g v (k+l) i b=znM g v l (i+k) (znM g v k i b)
 | 0,i,b=>by rw [Nat.zero_add]; rfl
 | k+1,i,b=>by
  rw [show k+1+l=(k+l)+1 by omega,znM,zjt g v l k (i+1),znM,show i+1+k=i+(k+1) by omega]
theorem zmt {g:Nat->Bool} {v:Nat->Int}:∀ (k i:Nat) (b:Int),(∀ j,i<=j->j<i+k->g j=false)->znM g v k i b=b
 | 0,_,_,_=>rfl
 | k+1,i,b,h=>by
  rw [znM,h i (Nat.le_refl i) (by omega)];exact zmt k (i+1) b λj h1 h2=>h j (by omega) (by omega)
def ovB (p:Plan) (way:List zM) (L f:Int) (i:Nat):Bool:=decide (f-L<zbb p way (i+1))&&(decide (zbb p way i<f)||decide (i=0))
def zmD (p:Plan) (way:List zM) (t:Train) (f:Int):Int:=znM (ovB p way t.2.1 f) (zkN p way) way.length 0 t.2.2.1
section
variable {p:Plan} {way:List zM} {t:Train} {st:Int} {stops:List Int} {x:zd} (hp:zi7 p) (hw:zhv p way) (ht:zkC t)
include hp hw ht
theorem zu6 {i j:Nat} (h:i<=j) (hj:j<=way.length):zbb p way i<=zbb p way j:=by
 by_cases e:i=j
 . subst e; omega
 . have:=zlw hp hw (i:=i) (j:=j) (by omega) hj; omega
theorem zu7 (hx:zpI t x):zch (zjs p way t st stops) x=some (zmD p way t (zA t x)):=by
  have hn:=hw.n;have hl:=ht.len;have hpl:=znL hp hw ht hx;unfold zch;show Zb (zR (t,st,()) x) _=_;rw [(zgK ht hx st).1,Zs];have e1:x.2.1/(10*t.1)=zA t x:=rfl;rw [e1];show Zb (zE (zfU p way) (w64 (w64 (zA t x-t.2.1)+1))) _=_;rw [zh (n:=zA t x-t.2.1) (by omega) (by omega),zh (n:=zA t x-t.2.1+1) (by omega) (by omega)];have hel:(zfU p way).length=way.length:=by unfold zfU; rw [zgg]
  have hll:(znI p way).length=way.length:=by unfold znI; rw [zgg]
  have hge:∀ j,j<way.length->(zfU p way).getD j 0=zbb p way (j+1):=λj hj=>by unfold zfU; rw [ziO 0 hj]
  have hgl:∀ j,j<way.length->(znI p way).getD j 0=zkN p way j:=λj hj=>by unfold znI; rw [ziO 0 hj]
  obtain ⟨i0,b,h1,h2,h3,h4⟩:=bsearch (zkq hp hw) (by omega) (zA t x-t.2.1+1);rw [h1,Zs];have key:∀ (k i:Nat) (v:Int),i+k=way.length->i0<=i->(i=i0\/zbb p way i<zA t x) ->
      Lp (λs8:Int×Int=>
cond (decide (s8.2<(zm (zfU p way)))) (Zb (idx (znI p way) s8.2) λx11=>
Zb (idx (zfU p way) s8.2) λx12=>
cond (decide (x12>=zA t x)) (some (.inr (min s8.1 x11))) (some (.inl ((min s8.1 x11),(w64 (s8.2+1)))))) (some (.inr s8.1))) k (v,(i:Int)) (znM (ovB p way t.2.1 (zA t x)) (zkN p way) k i v):=by
    intro k;induction k with
    | zero=>
      intro i v hi _ _;refine Lp.done ?_;have:i=(zfU p way).length:=by omega
      subst this;simp only [zG,cond_false];rfl
    | succ k ih=>
      intro i v hi hle hor;have hil:i<way.length:=by omega
      have hov:ovB p way t.2.1 (zA t x) i=true:=by
        unfold ovB;have h5:=h4 i hle (by omega);rw [hge i hil] at h5;rw [decide_eq_true (by omega)];have h6:i=0\/zbb p way i<zA t x:=by
          rcases hor with rfl | h
          · by_cases e:i=0
            · exact .inl e
            · right;have h7:=h3 (i-1) (by omega);rw [hge (i-1) (by omega),show i-1+1=i by omega] at h7;omega
          · exact .inr h
        simp only [Bool.true_and,Bool.or_eq_true,decide_eq_true_eq];omega
      rw [znM,if_pos hov];by_cases hc:zbb p way (i+1)>=zA t x
      · rw [zmt k (i+1) _ (λj h5 h6=>by
          have h7:=zu6 hp hw ht (i:=i+1) (j:=j) h5 (by omega);unfold ovB;rw [decide_eq_false (show ¬ zbb p way j<zA t x by omega),decide_eq_false (show ¬ j=0 by omega)];simp)]
        refine Lp.done ?_;simp only [zF (show i<(zfU p way).length by omega),cond_true];rw [zn 0 (by omega),Zs,zn 0 (by omega),Zs,hge i hil,hgl i hil,decide_eq_true hc,cond_true]
      · refine Lp.step ?_ (ih (i+1) _ (by omega) (by omega) (.inr (by omega)));simp only [zF (show i<(zfU p way).length by omega),cond_true];rw [zn 0 (by omega),Zs,zn 0 (by omega),Zs,hge i hil,hgl i hil,decide_eq_false hc,cond_false,zy (by omega)]
  have hL:=key (way.length-i0) i0 t.2.2.1 (by omega) (Nat.le_refl _) (.inl rfl);have hR:znM (ovB p way t.2.1 (zA t x)) (zkN p way) (way.length-i0) i0 t.2.2.1=zmD p way t (zA t x):=by
    unfold zmD;have hk:way.length=i0+(way.length-i0):=by omega
    rw [hk,zjt,zmt i0 0 _ (λj _ h6=>by
      have h7:=h3 j (by omega);rw [hge j (by omega)] at h7;unfold ovB;rw [decide_eq_false (by omega)];rfl),Nat.zero_add,← hk]
  rw [hR] at hL;have hB:=hL.big (by simp only [big]; omega);exact congrArg (λo=>Zb o λt14=>some t14) hB
theorem zfV {stop:Int} {f:Int} (hf:0<=f/\f<=4000000000000000000):zaT (p,way,t,st,stop,()) f=some (zeW p way f):=by
  have hn:=hw.n;unfold zaT;have key:∀ (k i:Nat),i+k+1=way.length ->
      Lp (λs30:Int×Int=>
cond (decide (s30.2<(zm way))) (Zb (idx way s30.2) λx35=>
Zb (zaw p x35.1) λy36=>
cond (decide (f<(w64 (s30.1+y36)))) (Zb (idx way s30.2) λx40=>
cond (x40.2.1) (Zb (idx way s30.2) λx44=>
Zb (idx p.2.1 x44.1) λx45=>
some (.inr (.inr (w64 (0-x45.2.2.2.2.1))))) (Zb (idx way s30.2) λx48=>
Zb (idx p.2.1 x48.1) λx49=>
some (.inr (.inr x49.2.2.2.2.1)))) (cond (s30.2==(w64 ((zm way)-1))) (Zb (idx way s30.2) λx51=>
cond (x51.2.1) (Zb (idx way s30.2) λx55=>
Zb (idx p.2.1 x55.1) λx56=>
some (.inr (.inr (w64 (0-x56.2.2.2.2.1))))) (Zb (idx way s30.2) λx59=>
Zb (idx p.2.1 x59.1) λx60=>
some (.inr (.inr x60.2.2.2.2.1)))) (some (.inl ((w64 (s30.1+y36)),(w64 (s30.2+1))))))) (some (.inr (.inl ())))) k (zbb p way i,(i:Int)) (.inr (zgN p way (ixF (λi=>decide (f<zbb p way (i+1))) k i)):Unit⊕Int):=by
    intro k;induction k with
    | zero=>
      intro i hi;have hil:i<way.length:=by omega
      obtain ⟨_,hs,hr⟩:=zms hp hw hil;refine Lp.done ?_;simp only [zF hil,cond_true];have hlast:((i:Int)==w64 (zm way-1))=true:=by
        rw [zp,zh (by omega) (by omega)]; simp; omega
      rw [zn M0 hil,Zs,ziN hp (hw.m i hil),Zs];simp only [Zs,hr,hlast,cond_true];have hv:(cond (way.getD i M0).2.1 (some (Sum.inr (Sum.inr (w64 (0-(zhc p way i).2.2.2.2.1)))):Option ((Int×Int)⊕(Unit⊕Int))) (some (Sum.inr (Sum.inr (zhc p way i).2.2.2.2.1))))=some (Sum.inr (Sum.inr (zgN p way i))):=by
        unfold zgN at *
        cases h:(way.getD i M0).2.1 with
        | true=>
          rw [h] at hs;simp only [if_true] at hs;simp only [cond_true,if_true];rw [zh (by omega) (by omega),Int.zero_sub]
        | false=>rfl
      rw [hv];cases decide (f<w64 (zbb p way i+zhb p (way.getD i M0).1))<;>rfl
    | succ k ih=>
      intro i hi;have hil:i<way.length:=by omega
      obtain ⟨_,hs,hr⟩:=zms hp hw hil;have hb:=zg0 hp hw (i:=i) (by omega);have hb1:=zg0 hp hw (i:=i+1) (by omega);have hsx:=zgZ p way i;have hml:mvl p way i=zhb p (way.getD i M0).1:=rfl;have hlast:((i:Int)==w64 (zm way-1))=false:=by
        rw [zp,zh (by omega) (by omega)]; simp; omega
      have hwe:w64 (zbb p way i+zhb p (way.getD i M0).1)=zbb p way (i+1):=by
        rw [← hml,← hsx,zh (by omega) (by omega)]
      unfold ixF;by_cases hc:f<zbb p way (i+1)
      · rw [if_pos (decide_eq_true hc)];refine Lp.done ?_;simp only [zF hil,cond_true];rw [zn M0 hil,Zs,ziN hp (hw.m i hil),Zs];simp only [Zs,hr,hwe,decide_eq_true hc,cond_true];unfold zgN at *
        cases h:(way.getD i M0).2.1 with
        | true=>
          rw [h] at hs;simp only [if_true] at hs;simp only [cond_true,if_true];rw [zh (by omega) (by omega),Int.zero_sub]
        | false=>rfl
      · rw [if_neg (by rw [decide_eq_true_eq]; exact hc)];refine Lp.step ?_ (ih (i+1) (by omega));simp only [zF hil,cond_true];rw [zn M0 hil,Zs,ziN hp (hw.m i hil),Zs];simp only [hlast,hwe,decide_eq_false hc,cond_false,zy (show i<9223372036854775807 by omega)]
  have hL:=(key (way.length-1) 0 (by omega)).big (by simp only [big]; omega);have h0:zbb p way 0=0:=rfl;rw [h0,show ((0:Nat):Int)=0 from rfl] at hL;exact congrArg (λo=>Zb o λt61:Unit⊕Int=>alt (λ_=>some 0) (λb64=>some b64) t61) hL
end
end Go.Ai.Sx
/- Motion: the reference's limit over the parts that a train covers. -/
namespace Go.Ai.Sx
open Option renaming bind->Zb,bind_some->Zs
section
variable {p:Plan} {way:List zM} {t:Train} {st:Int} {stops:List Int} {x:zd} (hp:zi7 p) (hw:zhv p way) (ht:zkC t)
include hp hw ht
def zo0 (p:Plan) (way:List zM) (t:Train) (f:Int) (k:Nat) (C:List Cover):Prop:=C.length<=k/\(∀ c∈C,0<=c.1/\c.1<(p.2.1.length:Int))/\∀ b:Int,C.foldl (λb c=>min b (rl0 p c.1).2.2.2.1) b=znM (ovB p way t.2.1 f) (zkN p way) k 0 b
omit hp hw ht in
theorem zu8 {f:Int} {k:Nat} {C:List Cover} (h:zo0 p way t f k C) (hg:ovB p way t.2.1 f k=false):zo0 p way t f (k+1) C:=by
 obtain ⟨h1,h2,h3⟩:=h;refine ⟨by omega,h2,λb=>?_⟩;rw [h3,zjt _ _ 1 k 0,znM,znM,Nat.zero_add,hg];rfl
omit hp ht in
theorem zsH {f:Int} {k:Nat} {C:List Cover} (h:zo0 p way t f k C) (hk:k<way.length) (hg:ovB p way t.2.1 f k=true) (a b:Int):zo0 p way t f (k+1) (C++[((way.getD k M0).1,a,b,())]):=by
 obtain ⟨h1,h2,h3⟩:=h;refine ⟨by simp; omega,λc hc=>?_,λb=>?_⟩
 . rw [List.mem_append,List.mem_singleton] at hc;rcases hc with hc | rfl
   . exact h2 c hc
   . exact hw.m k hk
 rw [List.foldl_append,h3,zjt _ _ 1 k 0,znM,znM,Nat.zero_add,if_pos hg];rfl
theorem zsI {f:Int} (hf:1<=f/\f<=4000000000000000000):∃ C,zdA p way f t.2.1=some C/\zo0 p way t f way.length C:=by
  have hn:=hw.n;have hl:=ht.len;unfold zdA;have hT:=Tot.iter (σ:=(List Cover×Int×Int)) (τ:=List Cover) (f:=λs15=>
cond (decide (s15.2.2<(zm way))) (Zb (idx way s15.2.2) λx20=>
Zb (zaw p x20.1) λy21=>
cond (decide ((w64 ((max (w64 (f-t.2.1)) s15.2.1)-s15.2.1))>=(w64 ((min f (w64 (s15.2.1+y21)))-s15.2.1)))) (some (.inl (s15.1,(w64 (s15.2.1+y21)),(w64 (s15.2.2+1))))) (Zb (idx way s15.2.2) λx23=>
cond (x23.2.1) (Zb (idx way s15.2.2) λx25=>
Zb (zdp 24 s15.1 ([((x25.1,(w64 (y21-(w64 ((min f (w64 (s15.2.1+y21)))-s15.2.1)))),(w64 (y21-(w64 ((max (w64 (f-t.2.1)) s15.2.1)-s15.2.1)))),()):Cover)])) λx26=>
some (.inl (x26,(w64 (s15.2.1+y21)),(w64 (s15.2.2+1))))) (Zb (idx way s15.2.2) λx28=>
Zb (zdp 24 s15.1 ([((x28.1,(w64 ((max (w64 (f-t.2.1)) s15.2.1)-s15.2.1)),(w64 ((min f (w64 (s15.2.1+y21)))-s15.2.1)),()):Cover)])) λx29=>
some (.inl (x29,(w64 (s15.2.1+y21)),(w64 (s15.2.2+1))))))) (some (.inr s15.1)))
    (λs=>∃ (i:Nat) (C:List Cover),s=(C,zbb p way i,(i:Int))/\i<=way.length/\zo0 p way t f i C) (λC=>zo0 p way t f way.length C) (λs=>way.length-s.2.2.toNat) (n:=big) (s:=([],0,0)) ⟨0,[],rfl,by omega,by simp,by simp,λb=>rfl⟩ (by simp only [big]; omega) (by
      rintro s ⟨i,C,rfl,hi,hC⟩
      simp only [];by_cases hil:i<way.length
      · have hb:=zg0 hp hw (i:=i) (by omega);have hb1:=zg0 hp hw (i:=i+1) (by omega);have hsx:=zgZ p way i;have hml:mvl p way i=zhb p (way.getD i M0).1:=rfl;have hmb:=zsF hp hw hil;have hwe:w64 (zbb p way i+zhb p (way.getD i M0).1)=zbb p way (i+1):=by
          rw [← hml,← hsx,zh (by omega) (by omega)]
        rw [zF hil,cond_true,zn M0 hil,Zs,ziN hp (hw.m i hil),Zs,hwe];rw [zh (n:=f-t.2.1) (by omega) (by omega),zh (n:=max (f-t.2.1) (zbb p way i)-zbb p way i) (by omega) (by omega),zh (n:=min f (zbb p way (i+1))-zbb p way i) (by omega) (by omega)];have hov:ovB p way t.2.1 f i=!decide (max (f-t.2.1) (zbb p way i)-zbb p way i>=min f (zbb p way (i+1))-zbb p way i):=by
          unfold ovB;have h0:i=0->zbb p way i=0:=λh=>by subst h; rfl
          by_cases e:max (f-t.2.1) (zbb p way i)-zbb p way i>=min f (zbb p way (i+1))-zbb p way i
          · rw [decide_eq_true e];by_cases e1:f-t.2.1<zbb p way (i+1)
            · rw [decide_eq_false (show ¬ zbb p way i<f by omega),decide_eq_false (show ¬ i=0 by omega)]; simp
            · rw [decide_eq_false e1]; rfl
          · rw [decide_eq_false e,decide_eq_true (show f-t.2.1<zbb p way (i+1) by omega),decide_eq_true (show zbb p way i<f by omega)]; rfl
        by_cases e:max (f-t.2.1) (zbb p way i)-zbb p way i>=min f (zbb p way (i+1))-zbb p way i
        · rw [decide_eq_true e] at hov ⊢;rw [cond_true,zy (by omega)];exact Tot.some ⟨⟨i+1,C,rfl,by omega,zu8 hC hov⟩,by simp only [Int.toNat_natCast]; omega⟩
        · rw [decide_eq_false e] at hov ⊢;have hcl:=hC.1;rw [cond_false,Zs];have happ:∀ a b:Int,zdp 24 C [((way.getD i M0).1,a,b,())]=some (C++[((way.getD i M0).1,a,b,())]):=λa b=>zaF (by simp; omega);simp only [Zs,happ,zy (show i<9223372036854775807 by omega)];cases (way.getD i M0).2.1 with
          | true=>exact Tot.some ⟨⟨i+1,_,rfl,by omega,zsH hw hC hil hov _ _⟩,by simp only [Int.toNat_natCast]; omega⟩
          | false=>exact Tot.some ⟨⟨i+1,_,rfl,by omega,zsH hw hC hil hov _ _⟩,by simp only [Int.toNat_natCast]; omega⟩
      · have:i=way.length:=by omega
        subst this;rw [zG,cond_false];exact Tot.some hC)
  obtain ⟨C,h1,h2⟩:=hT;exact ⟨C,by rw [h1]; rfl,h2⟩
theorem zfs {f:Int} (hf:1<=f/\f<=4000000000000000000):zdl p way t f=some (zmD p way t f):=by
  have hn:=hw.n;obtain ⟨C,h1,h2,h3,h4⟩:=zsI hp hw ht hf;unfold zdl;rw [h1,Zs];have hL:=zcE (f:=λs8:Int×Int=>
cond (decide (s8.2<(zm C))) (Zb (idx C s8.2) λx13=>
Zb (idx p.2.1 x13.1) λx14=>
some (.inl ((min s8.1 x14.2.2.2.1),(w64 (s8.2+1))))) (some (.inr s8.1))) C (λi b=>(b,(i:Int))) (λ_ b c=>(.inl (min b (rl0 p c.1).2.2.2.1):Int⊕Int)) (λb=>b) (λ_ _=>True) t.2.2.1 (s0:=(t.2.2.1,0)) rfl (by omega) trivial (λi h b _=>by
      refine ⟨?_,λ_ _=>trivial⟩;simp only [];rw [zF h,cond_true,zdd,List.getElem?_eq_getElem h,Zs];have hc:=h3 C[i] (List.getElem_mem h);have hr:idx p.2.1 C[i].1=some (rl0 p C[i].1):=zbg hc.1 hc.2;rw [hr,Zs,zy (by omega)]) (λb _=>by simp only [zG,cond_false])
  rw [hL,zfd,h4];rfl
end
end Go.Ai.Sx
/- Motion: what is safe. -/
namespace Go.Ai.Sx
open Option renaming bind->Zb,bind_some->Zs
section
variable (p:Plan) (way:List zM) (t:Train) (st stop:Int)
def slS (y:zd):Int:=zeW p way (zA t y)
def zfW (x:zd):Bool:=decide (zA t x<=stop)&&decide (x.1/t.1<=zmD p way t (zA t x))
def nxS (x:zd):zaZ×Bool:=zd9 t st x (-4) (slS p way t x)
def zqH:Nat->zd->Bool
 | 0,x=>x.1==0
 | n+1,x=>x.1==0||((nxS p way t st x).2&&(zfW p way t stop (nxS p way t st x).1.1&&zqH n (nxS p way t st x).1.1))
def zmu (x:zd):Bool:=zfW p way t stop x&&zqH p way t st stop 36000 x
end
section
variable {p:Plan} {way:List zM} {t:Train} {st:Int} {stops:List Int} {x:zd} (hp:zi7 p) (hw:zhv p way) (ht:zkC t) (hst:0<=st/\st<t.2.2.2.2.2.2.2.2.2.1.length)
include hp hw ht hst
theorem zsJ (hx:zpI t x) (stop:Int):zbt (zjs p way t st stops) x stop=some (zfW p way t stop x):=by
 have hf:zoT t st 0 0:=⟨hst,by omega,by omega⟩;unfold zbt;show (Zb (Zb (zR (t,st,()) x) λy10=>cond (decide (y10<=stop)) (Zb (za9 (t,st,()) x) _) _) _)=_;rw [(zgK ht hx st).1,Zs,(ziI ht hf hx).1,Zs,zu7 hp hw ht hx,Zs];unfold zfW zA;cases decide (x.2.1/(10*t.1)<=stop)<;>rfl
theorem zxO (hx:0<=x.1/\x.1<=25000*t.1) (hwx:0<=x.2.1/\x.2.1<=1000000000000000000) (stop:Int):zb0 (zjs p way t st stops) x stop=some (zmu p way t st stop x):=by
  unfold zb0;rw [zsJ hp hw ht hst ⟨hx,hwx.1,by omega⟩ stop,Zs];unfold zmu;cases hfi:zfW p way t stop x with
  | false=>rfl
  | true=>
    have hm:zbU (zjs p way t st stops).1 x (λy=>zaA (zjs p way t st stops) y)=some (x,(t,st,()),λy=>zaA (zjs p way t st stops) y):=rfl;simp only [Bool.not_true,cond_false,hm,Zs,Bool.true_and];have hS:=zoU (σ:=Int×Int) (τ:=Int×Int) (t:=t) (st:=st) (sl:=slS p way t) (f:=λy=>zaA (zjs p way t st stops) y)
      (step:=λs16 x9=>Zb (zbt (zjs p way t st stops) x9 stop) λy19=>
cond (!y19) (some (.inr (s16.1,s16.2))) (some (.inl (x9.1,x9.2.1))))
      (g:=λs y=>if zfW p way t stop y then .inl (y.1,y.2.1) else .inr (s.1,s.2)) (W:=4000000000000000000) ht hst (by omega)
      (λy h1 h2=>⟨zu5 hp hw ht ⟨h1,h2⟩,zg1 hp hw ht ⟨h1,h2⟩ _⟩)
      (λs y h1 h2=>by
        rw [zsJ hp hw ht hst ⟨h1,h2⟩ stop,Zs];cases zfW p way t stop y<;>rfl) (x.1,x.2.1) x hx ⟨hwx.1,by omega⟩
    obtain ⟨z,hz⟩:=hS;rw [hz,Zs];have key:∀ (n:Nat) (x:zd),(alt (λb23:Int×Int=>some (b23.1==0)) (λ_:Int×Int=>some false) (zmf (λ(s:Int×Int) (y:zd)=>if zfW p way t stop y then .inl (y.1,y.2.1) else .inr (s.1,s.2)) (x.1,x.2.1) (brk t st (slS p way t) n x)):Option Bool)=some (zqH p way t st stop n x):=by
      intro n;induction n with
      | zero=>intro x; rfl
      | succ n ih=>
        intro x;unfold brk zqH;by_cases h0:x.1=0
        · rw [if_pos h0,show (x.1==0)=true by simpa using h0];simp only [zmf,zaG,h0]; rfl
        · rw [if_neg h0,show (x.1==0)=false by simpa using h0];show alt _ _ (zmf _ _ (if (nxS p way t st x).2=true then (nxS p way t st x).1.1::brk t st (slS p way t) n (nxS p way t st x).1.1 else []))=_;cases hok:(nxS p way t st x).2 with
          | false=>
            simp only [Bool.false_eq_true,if_false,zmf,zaG,Bool.false_and,Bool.or_false];rw [show (x.1==0)=false by simpa using h0]
          | true=>
            simp only [if_true,zmf,Bool.true_and,Bool.false_or];cases hfy:zfW p way t stop (nxS p way t st x).1.1 with
            | false=>rfl
            | true=>
              simp only [if_true,Bool.true_and];exact ih _
    exact key 36000 x
theorem zu9 (hx:0<=x.1/\x.1<=25000*t.1) (hwx:10*t.1<=x.2.1/\x.2.1<=1000000000000000000) (stop:Int):zdP (p,way,t,st,stop,()) x=some (zmu p way t st stop x):=by
  have hm:=ht.m;unfold zdP;have key:∀ (n k:Nat) (v w:Int),k+n=36000->0<=v/\v<=25000*t.1->10*t.1<=w/\w+2000000000*n<=2000000000000000000->∃ T:Bool×Int×Int,T.1=(zfW p way t stop (v,w,())&&zqH p way t st stop n (v,w,()))/\Lp (λs54:Int×Int×Int=>
Zb (zL t (s54.2.1,s54.2.2,())) λy66=>
cond (decide (y66>stop)) (some (.inr (false,s54.2.1,s54.2.2))) (Zb (zc2 .i64 s54.2.1 t.1) λx69=>
Zb (zL t (s54.2.1,s54.2.2,())) λy70=>
Zb (zdl p way t y70) λy71=>
cond (decide (x69>y71)) (some (.inr (false,s54.2.1,s54.2.2))) (cond (s54.2.1==0) (some (.inr (true,s54.2.1,s54.2.2))) (cond (s54.1==36000) (some (.inr (false,s54.2.1,s54.2.2))) (Zb (zL t (s54.2.1,s54.2.2,())) λy78=>
Zb (zaT (p,way,t,st,stop,()) y78) λy79=>
Zb (zay t (s54.2.1,s54.2.2,()) (-4) y79 st) λy80=>
cond (!y80.2.2) (some (.inr (false,y80.1.1,y80.1.2.1))) (some (.inl ((w64 (s54.1+1)),y80.1.1,y80.1.2.1)))))))) n ((k:Int),v,w) T:=by
    intro n;induction n with
    | zero=>
      intro k v w hk hv hww;have:k=36000:=by omega
      subst this;have hso:zpI t (v,w,()):=⟨hv,⟨by show 0<=w; omega,by show w<=_; omega⟩⟩;have hf0:zoT t st 0 0:=⟨hst,by omega,by omega⟩;have hpl:1<=zA t (v,w,())/\zA t (v,w,())<=4000000000000000000:=by
        refine ⟨?_,(znL hp hw ht hso).2⟩;show 1<=w/(10*t.1);exact (Int.le_ediv_iff_mul_le (by omega)).2 (by omega)
      have e0:zL t (v,w,())=some (zA t (v,w,())):=(zgK ht hso st).2;have e1:zc2 .i64 v t.1=some (v/t.1):=(ziI ht hf0 hso).2;by_cases c1:zA t (v,w,())<=stop
      · by_cases c2:v/t.1<=zmD p way t (zA t (v,w,()))
        · have hfb:zfW p way t stop (v,w,())=true:=by
            unfold zfW;rw [decide_eq_true c1,decide_eq_true (show (v,w,()).1/t.1<=zmD p way t (zA t (v,w,())) from c2)]; rfl
          rw [hfb];by_cases h0:v=0
          · subst h0;refine ⟨(true,0,w),rfl,Lp.done ?_⟩;simp only [e0,Zs,e1,zfs hp hw ht hpl,decide_eq_false (show ¬ zA t (0,w,())>stop by omega),decide_eq_false (show ¬ (0:Int)/t.1>zmD p way t (zA t (0,w,())) by omega),cond_false];rfl
          · have hb:(v==0)=false:=by simpa using h0
            refine ⟨(false,v,w), ?_,Lp.done ?_⟩
            · show false=(true&&(v==0)); rw [hb]; rfl
            simp only [e0,Zs,e1,zfs hp hw ht hpl,decide_eq_false (show ¬ zA t (v,w,())>stop by omega),decide_eq_false (show ¬ v/t.1>zmD p way t (zA t (v,w,())) by omega),cond_false,hb];rfl
        · refine ⟨(false,v,w), ?_,Lp.done ?_⟩
          · unfold zfW;rw [decide_eq_false (show ¬ (v,w,()).1/t.1<=zmD p way t (zA t (v,w,())) from c2),Bool.and_false]; rfl
          simp only [e0,Zs,e1,zfs hp hw ht hpl,decide_eq_false (show ¬ zA t (v,w,())>stop by omega),decide_eq_true (show v/t.1>zmD p way t (zA t (v,w,())) by omega),cond_false,cond_true]
      · refine ⟨(false,v,w), ?_,Lp.done ?_⟩
        · unfold zfW;rw [decide_eq_false c1]; rfl
        simp only [e0,Zs,decide_eq_true (show zA t (v,w,())>stop by omega),cond_true]
    | succ n ih=>
      intro k v w hk hv hww;have hk0:((k:Int)==36000)=false:=by simp; omega
      have hso:zpI t (v,w,()):=⟨hv,⟨by show 0<=w; omega,by show w<=_; omega⟩⟩;have hf0:zoT t st 0 0:=⟨hst,by omega,by omega⟩;have hpl:1<=zA t (v,w,())/\zA t (v,w,())<=4000000000000000000:=by
        refine ⟨?_,(znL hp hw ht hso).2⟩;show 1<=w/(10*t.1);exact (Int.le_ediv_iff_mul_le (by omega)).2 (by omega)
      have e0:zL t (v,w,())=some (zA t (v,w,())):=(zgK ht hso st).2;have e1:zc2 .i64 v t.1=some (v/t.1):=(ziI ht hf0 hso).2;by_cases c1:zA t (v,w,())<=stop
      · by_cases c2:v/t.1<=zmD p way t (zA t (v,w,()))
        · have hfb:zfW p way t stop (v,w,())=true:=by
            unfold zfW;rw [decide_eq_true c1,decide_eq_true (show (v,w,()).1/t.1<=zmD p way t (zA t (v,w,())) from c2)]; rfl
          rw [hfb];unfold zqH;by_cases h0:v=0
          · subst h0;refine ⟨(true,0,w),rfl,Lp.done ?_⟩;simp only [e0,Zs,e1,zfs hp hw ht hpl,decide_eq_false (show ¬ zA t (0,w,())>stop by omega),decide_eq_false (show ¬ (0:Int)/t.1>zmD p way t (zA t (0,w,())) by omega),cond_false];rfl
          · have hb:(v==0)=false:=by simpa using h0
            have hsl:=zg1 hp hw ht hso (zA t (v,w,()));have hfin:zoT t st (-4) (zeW p way (zA t (v,w,()))):=⟨hst,by omega,hsl⟩;have hstep:zay t (v,w,()) (-4) (zeW p way (zA t (v,w,()))) st=some ((nxS p way t st (v,w,())).1.1,(nxS p way t st (v,w,())).1.2.1,(nxS p way t st (v,w,())).2):=zmg ht hfin hso;have hbx:(((v,w,()):zd).1==0)=false:=hb;rw [hbx];cases hok:(nxS p way t st (v,w,())).2 with
            | false=>
              refine ⟨(false,(nxS p way t st (v,w,())).1.1.1,(nxS p way t st (v,w,())).1.1.2.1),rfl,Lp.done ?_⟩;simp only [e0,Zs,e1,zfs hp hw ht hpl,decide_eq_false (show ¬ zA t (v,w,())>stop by omega),decide_eq_false (show ¬ v/t.1>zmD p way t (zA t (v,w,())) by omega),cond_false,hb,hk0,zfV hp hw ht (show 0<=zA t (v,w,())/\zA t (v,w,())<=4000000000000000000 by omega),hstep,hok,Bool.not_false,cond_true]
            | true=>
              obtain ⟨n1,n2⟩:=zgL ht hfin hv ⟨by show 0<=w; omega,by show w<=_; omega⟩ hok;have n1':0<=(nxS p way t st (v,w,())).1.1.1/\(nxS p way t st (v,w,())).1.1.1<=25000*t.1:=n1;have n2':(nxS p way t st (v,w,())).1.1.2.1=w+(nxS p way t st (v,w,())).1.1.1:=n2;obtain ⟨T,h1,h2⟩:=ih (k+1) (nxS p way t st (v,w,())).1.1.1 (nxS p way t st (v,w,())).1.1.2.1 (by omega) n1' (by omega);refine ⟨T, ?_,Lp.step ?_ h2⟩
              · rw [h1]; rfl
              simp only [e0,Zs,e1,zfs hp hw ht hpl,decide_eq_false (show ¬ zA t (v,w,())>stop by omega),decide_eq_false (show ¬ v/t.1>zmD p way t (zA t (v,w,())) by omega),cond_false,hb,hk0,zfV hp hw ht (show 0<=zA t (v,w,())/\zA t (v,w,())<=4000000000000000000 by omega),hstep,hok,Bool.not_true];rw [zy (by omega)]
        · refine ⟨(false,v,w), ?_,Lp.done ?_⟩
          · unfold zfW;rw [decide_eq_false (show ¬ (v,w,()).1/t.1<=zmD p way t (zA t (v,w,())) from c2),Bool.and_false]; rfl
          simp only [e0,Zs,e1,zfs hp hw ht hpl,decide_eq_false (show ¬ zA t (v,w,())>stop by omega),decide_eq_true (show v/t.1>zmD p way t (zA t (v,w,())) by omega),cond_false,cond_true]
      · refine ⟨(false,v,w), ?_,Lp.done ?_⟩
        · unfold zfW;rw [decide_eq_false c1]; rfl
        simp only [e0,Zs,decide_eq_true (show zA t (v,w,())>stop by omega),cond_true]
  obtain ⟨T,h1,h2⟩:=key 36000 0 x.1 x.2.1 (by omega) hx (by omega);rw [show ((0:Nat):Int)=0 from rfl] at h2;have hB:=h2.big (by simp only [big]; omega);have:=congrArg (λo=>Zb o λt82:Bool×Int×Int=>some t82.1) hB;exact this.trans (congrArg some h1)
end
end Go.Ai.Sx
/- Motion: the first safe demand. -/
namespace Go.Ai.Sx
open Option renaming bind->Zb,bind_some->Zs
def ztt (ok:Int->Bool):Nat->Int->Option Int
 | 0,_=>none
 | n+1,d=>if ok d then some d else ztt ok n (d-1)
theorem zkr {ok:Int->Bool}:∀ {n:Nat} {d e:Int},ztt ok n d=some e->ok e=true/\d-n<e/\e<=d
 | 0,_,_,h=>by cases h
 | n+1,d,e,h=>by
  rw [ztt] at h;split at h
  . rename_i hk;cases h;exact ⟨hk,by omega,by omega⟩
  . obtain ⟨h1,h2,h3⟩:=zkr h;exact ⟨h1,by omega,by omega⟩
section
variable (p:Plan) (way:List zM) (t:Train) (st stop:Int)
def zc3 (x:zd) (d:Int):zaZ×Bool:=zd9 t st x d (slS p way t x)
def okD (x:zd) (d:Int):Bool:=(zc3 p way t st x d).2&&zmu p way t st stop (zc3 p way t st x d).1.1
def zqI (x:zd):Option Int:=ztt (okD p way t st stop x) 9 4
end
def zAx (s:zaZ):Bool×Int×Int×Int×Int×Int×Int×Int×Int×Int×Int:=(true,s.1.1,s.1.2.1,s.2.1.1,s.2.1.2.1,s.2.1.2.2.1,s.2.1.2.2.2.1,s.2.1.2.2.2.2.1,s.2.1.2.2.2.2.2.1,s.2.2.1,s.2.2.2.1)
section
variable {p:Plan} {way:List zM} {t:Train} {st:Int} {stops:List Int} {x:zd} (hp:zi7 p) (hw:zhv p way) (ht:zkC t) (hst:0<=st/\st<t.2.2.2.2.2.2.2.2.2.1.length)
include hp hw ht hst
theorem znN (hx:0<=x.1/\x.1<=25000*t.1) (hwx:0<=x.2.1/\x.2.1<=500000000000000000) (stop:Int):zaC (zjs p way t st stops) x stop=some (match zqI p way t st stop x with | some d=>((zc3 p way t st x d).1,true) | none=>(((0,0,()),(0,0,0,0,0,0,()),0,0,()),false)):=by
  have hm:=ht.m;have hso:zpI t x:=⟨hx,⟨hwx.1,by omega⟩⟩;have hsl:=zg1 hp hw ht hso (zA t x);unfold zaC;rw [zu5 hp hw ht hso,Zs];have key:∀ (n k:Nat),k+n=9->Lp (λs26:Bool×Int×Int×Int×Int×Int×Int×Int×Int×Int×Int×Int=>
cond (decide (s26.2.1<9)) (Zb (zaq (zjs p way t st stops).1 x (w64 (4-s26.2.1)) (zeW p way (zA t x))) λy31=>
cond (y31.2) (Zb (zb0 (zjs p way t st stops) y31.1.1 stop) λy36=>
cond (y36) (some (.inr ((true,y31.1.1.1,y31.1.1.2.1,y31.1.2.1.1,y31.1.2.1.2.1,y31.1.2.1.2.2.1,y31.1.2.1.2.2.2.1,y31.1.2.1.2.2.2.2.1,y31.1.2.1.2.2.2.2.2.1,y31.1.2.2.1,y31.1.2.2.2.1):Bool×Int×Int×Int×Int×Int×Int×Int×Int×Int×Int))) (some (.inl (s26.1,(w64 (s26.2.1+1)),s26.2.2.1,s26.2.2.2.1,s26.2.2.2.2.1,s26.2.2.2.2.2.1,s26.2.2.2.2.2.2.1,s26.2.2.2.2.2.2.2.1,s26.2.2.2.2.2.2.2.2.1,s26.2.2.2.2.2.2.2.2.2.1,s26.2.2.2.2.2.2.2.2.2.2.1,s26.2.2.2.2.2.2.2.2.2.2.2)))) (some (.inl (s26.1,(w64 (s26.2.1+1)),s26.2.2.1,s26.2.2.2.1,s26.2.2.2.2.1,s26.2.2.2.2.2.1,s26.2.2.2.2.2.2.1,s26.2.2.2.2.2.2.2.1,s26.2.2.2.2.2.2.2.2.1,s26.2.2.2.2.2.2.2.2.2.1,s26.2.2.2.2.2.2.2.2.2.2.1,s26.2.2.2.2.2.2.2.2.2.2.2)))) (some (.inr (s26.1,s26.2.2.1,s26.2.2.2.1,s26.2.2.2.2.1,s26.2.2.2.2.2.1,s26.2.2.2.2.2.2.1,s26.2.2.2.2.2.2.2.1,s26.2.2.2.2.2.2.2.2.1,s26.2.2.2.2.2.2.2.2.2.1,s26.2.2.2.2.2.2.2.2.2.2.1,s26.2.2.2.2.2.2.2.2.2.2.2)))) n (false,(k:Int),0,0,0,0,0,0,0,0,0,0) (match ztt (okD p way t st stop x) n (4-k) with | some d=>zAx (zc3 p way t st x d).1 | none=>(false,0,0,0,0,0,0,0,0,0,0)):=by
    intro n;induction n with
    | zero=>
      intro k hk;have:k=9:=by omega
      subst this;exact Lp.done rfl
    | succ n ih=>
      intro k hk;have hfin:zoT t st (4-k) (zeW p way (zA t x)):=⟨hst,by omega,hsl⟩;have hstep:zaq (zjs p way t st stops).1 x (4-(k:Int)) (zeW p way (zA t x))=some (zc3 p way t st x (4-k)):=zpJ ht hfin hso;have hnext:Lp _ _ _ _:=ih (k+1) (by omega);rw [show (4-((k+1:Nat):Int))=4-(k:Int)-1 by omega] at hnext;have hok:okD p way t st stop x (4-k)=((zc3 p way t st x (4-k)).2&&zmu p way t st stop (zc3 p way t st x (4-k)).1.1):=rfl;rw [ztt,hok];cases h1:(zc3 p way t st x (4-k)).2 with
      | false=>
        simp only [Bool.false_and,Bool.false_eq_true,if_false];refine Lp.step ?_ hnext;simp only [decide_eq_true (show (k:Int)<9 by omega),cond_true,zh (n:=4-(k:Int)) (by omega) (by omega),hstep,Zs,h1,cond_false];rw [zy (by omega)]
      | true=>
        obtain ⟨n1,n2⟩:=zgL ht hfin hx hso.w h1;have n1':0<=(zc3 p way t st x (4-k)).1.1.1/\(zc3 p way t st x (4-k)).1.1.1<=25000*t.1:=n1;have n2':(zc3 p way t st x (4-k)).1.1.2.1=x.2.1+(zc3 p way t st x (4-k)).1.1.1:=n2;have hsafe:=zxO (stops:=stops) hp hw ht hst n1' (by omega) stop;cases h2:zmu p way t st stop (zc3 p way t st x (4-k)).1.1 with
        | false=>
          simp only [Bool.and_false,Bool.false_eq_true,if_false];refine Lp.step ?_ hnext;simp only [decide_eq_true (show (k:Int)<9 by omega),cond_true,zh (n:=4-(k:Int)) (by omega) (by omega),hstep,Zs,h1,hsafe,h2,cond_false];rw [zy (by omega)]
        | true=>
          simp only [Bool.and_true,if_true];refine Lp.done ?_;simp only [decide_eq_true (show (k:Int)<9 by omega),cond_true,zh (n:=4-(k:Int)) (by omega) (by omega),hstep,Zs,h1,hsafe,h2];rfl
  have hB:=(key 9 0 rfl).big (by simp only [big]; omega);rw [show ((0:Nat):Int)=0 from rfl] at hB;refine (congrArg (λo=>Zb o λt39:Bool×Int×Int×Int×Int×Int×Int×Int×Int×Int×Int=>some ((((t39.2.1,t39.2.2.1,()),(t39.2.2.2.1,t39.2.2.2.2.1,t39.2.2.2.2.2.1,t39.2.2.2.2.2.2.1,t39.2.2.2.2.2.2.2.1,t39.2.2.2.2.2.2.2.2.1,()),t39.2.2.2.2.2.2.2.2.2.1,t39.2.2.2.2.2.2.2.2.2.2,()),t39.1):zaZ×Bool)) hB).trans ?_;rw [Zs];unfold zqI;rw [show (4:Int)-0=4 from rfl];cases ztt (okD p way t st stop x) 9 4<;>rfl
theorem znO (hx:0<=x.1/\x.1<=25000*t.1) (hwx:10*t.1<=x.2.1/\x.2.1<=500000000000000000) (stop:Int):zci (p,way,t,st,stop,()) x=some (match zqI p way t st stop x with | some d=>(d,true) | none=>(0,false)):=by
  have hm:=ht.m;have hso:zpI t x:=⟨hx,⟨by omega,by omega⟩⟩;have hsl:=zg1 hp hw ht hso (zA t x);have hpl:=znL hp hw ht hso;unfold zci;have key:∀ (n:Nat) (d:Int),d+5=n->d<=4->Lp (λs18:Int=>
cond (decide (s18>=(-4))) (Zb (zL t x) λy26=>
Zb (zaT (p,way,t,st,stop,()) y26) λy27=>
Zb (zay t x s18 y27 st) λy28=>
cond (y28.2.2) (Zb (zdP (p,way,t,st,stop,()) y28.1) λy34=>
cond (y34) (some (.inr (.inr (s18,true)))) (some (.inl (w64 (s18-1))))) (some (.inl (w64 (s18-1))))) (some (.inr (.inl ())))) n d (match ztt (okD p way t st stop x) n d with | some e=>(.inr (e,true):Unit⊕(Int×Bool)) | none=>.inl ()):=by
    intro n;induction n with
    | zero=>
      intro d hd _;refine Lp.done ?_;rw [decide_eq_false (by omega)]; rfl
    | succ n ih=>
      intro d hd hd4;have hfin:zoT t st d (zeW p way (zA t x)):=⟨hst,by omega,hsl⟩;have hstep:zay t x d (zeW p way (zA t x)) st=some ((zc3 p way t st x d).1.1,(zc3 p way t st x d).1.2.1,(zc3 p way t st x d).2):=zmg ht hfin hso;have e0:zL t x=some (zA t x):=(zgK ht hso st).2;have hnext:=ih (d-1) (by omega) (by omega);have hok:okD p way t st stop x d=((zc3 p way t st x d).2&&zmu p way t st stop (zc3 p way t st x d).1.1):=rfl;rw [ztt,hok];cases h1:(zc3 p way t st x d).2 with
      | false=>
        simp only [Bool.false_and,Bool.false_eq_true,if_false];refine Lp.step ?_ hnext;simp only [decide_eq_true (show d>=-4 by omega),cond_true,e0,Zs,zfV hp hw ht hpl,hstep,h1,cond_false,zh (n:=d-1) (by omega) (by omega)]
      | true=>
        obtain ⟨n1,n2⟩:=zgL ht hfin hx hso.w h1;have n1':0<=(zc3 p way t st x d).1.1.1/\(zc3 p way t st x d).1.1.1<=25000*t.1:=n1;have n2':(zc3 p way t st x d).1.1.2.1=x.2.1+(zc3 p way t st x d).1.1.1:=n2;have hsafe:=zu9 hp hw ht hst n1' (by omega) stop;cases h2:zmu p way t st stop (zc3 p way t st x d).1.1 with
        | false=>
          simp only [Bool.and_false,Bool.false_eq_true,if_false];refine Lp.step ?_ hnext;simp only [decide_eq_true (show d>=-4 by omega),cond_true,e0,Zs,zfV hp hw ht hpl,hstep,h1,hsafe,h2,cond_false,zh (n:=d-1) (by omega) (by omega)]
        | true=>
          simp only [Bool.and_true,if_true];refine Lp.done ?_;simp only [decide_eq_true (show d>=-4 by omega),cond_true,e0,Zs,zfV hp hw ht hpl,hstep,h1,hsafe,h2]
  have hB:=(key 9 4 rfl (by omega)).big (by simp only [big]; omega);rw [hB,Zs];unfold zqI;cases ztt (okD p way t st stop x) 9 4<;>rfl
end
end Go.Ai.Sx
/- Motion: one leg. -/
namespace Go.Ai.Sx
open Option renaming bind->Zb,bind_some->Zs
def zxP (p_0:zan) (p_2:Int):(Int×Int×Int×Int×Int×Int×Int×Int×Int×Int×Int×Int×Int×Int×Int×Int×Int×Int×Int×Int×Int×Int×Int×Int×Int)->Option ((Int×Int×Int×Int×Int×Int×Int×Int×Int×Int×Int×Int×Int×Int×Int×Int×Int×Int×Int×Int×Int×Int×Int×Int×Int)⊕(Bool×Int×Int×Int×Int×Int×Int×Int×Int×Int×Int×Int×Int×Int×Int×Int×Int×Int×Int×Int×Int×Int×Int×Int×Int)):=(λs77=>
Zb (zR p_0.1 (s77.2.2.2.2.2.2.2.2.2.2.2.2.2.2.1,s77.2.2.2.2.2.2.2.2.2.2.2.2.2.2.2.1,())) λy80=>
cond (s77.2.2.2.2.2.2.2.2.2.2.2.2.2.2.1==0) (Zb (zO (w64 (p_2-y80)) 0 1000) λy84=>
cond (y84) (some (.inr (true,y80,s77.2.2.2.2.2.2.2.2.2.2.2.2.2.2.1,s77.2.2.2.2.2.2.2.2.2.2.2.2.2.2.2.1,s77.2.1,y80,s77.2.2.2.1,s77.2.2.2.2.1,s77.2.2.2.2.2.1,s77.2.2.2.2.2.2.1,s77.2.2.2.2.2.2.2.1,s77.2.2.2.2.2.2.2.2.1,s77.2.2.2.2.2.2.2.2.2.1,s77.2.2.2.2.2.2.2.2.2.2.1,s77.2.1,s77.2.2.2.1,s77.2.2.2.2.1,s77.2.2.2.2.2.1,s77.2.2.2.2.2.2.1,s77.2.2.2.2.2.2.2.1,s77.2.2.2.2.2.2.2.2.1,s77.2.2.2.2.2.2.2.2.2.1,s77.2.2.2.2.2.2.2.2.2.2.1,s77.2.2.2.2.2.2.2.2.2.2.2.2.2.2.1,s77.2.2.2.2.2.2.2.2.2.2.2.2.2.2.2.1))) (cond (s77.1==36000) (some (.inr (false,s77.2.2.1,s77.2.2.2.2.2.2.2.2.2.2.2.2.2.2.1,s77.2.2.2.2.2.2.2.2.2.2.2.2.2.2.2.1,s77.2.1,s77.2.2.1,s77.2.2.2.1,s77.2.2.2.2.1,s77.2.2.2.2.2.1,s77.2.2.2.2.2.2.1,s77.2.2.2.2.2.2.2.1,s77.2.2.2.2.2.2.2.2.1,s77.2.2.2.2.2.2.2.2.2.1,s77.2.2.2.2.2.2.2.2.2.2.1,s77.2.1,s77.2.2.2.1,s77.2.2.2.2.1,s77.2.2.2.2.2.1,s77.2.2.2.2.2.2.1,s77.2.2.2.2.2.2.2.1,s77.2.2.2.2.2.2.2.2.1,s77.2.2.2.2.2.2.2.2.2.1,s77.2.2.2.2.2.2.2.2.2.2.1,s77.2.2.2.2.2.2.2.2.2.2.2.2.2.2.1,s77.2.2.2.2.2.2.2.2.2.2.2.2.2.2.2.1))) (Zb (zaC p_0 (s77.2.2.2.2.2.2.2.2.2.2.2.2.2.2.1,s77.2.2.2.2.2.2.2.2.2.2.2.2.2.2.2.1,()) p_2) λy87=>
cond (!y87.2) (some (.inr (false,s77.2.2.1,s77.2.2.2.2.2.2.2.2.2.2.2.2.2.2.1,s77.2.2.2.2.2.2.2.2.2.2.2.2.2.2.2.1,s77.2.1,s77.2.2.1,s77.2.2.2.1,s77.2.2.2.2.1,s77.2.2.2.2.2.1,s77.2.2.2.2.2.2.1,s77.2.2.2.2.2.2.2.1,s77.2.2.2.2.2.2.2.2.1,s77.2.2.2.2.2.2.2.2.2.1,s77.2.2.2.2.2.2.2.2.2.2.1,s77.2.1,s77.2.2.2.1,s77.2.2.2.2.1,s77.2.2.2.2.2.1,s77.2.2.2.2.2.2.1,s77.2.2.2.2.2.2.2.1,s77.2.2.2.2.2.2.2.2.1,s77.2.2.2.2.2.2.2.2.2.1,s77.2.2.2.2.2.2.2.2.2.2.1,s77.2.2.2.2.2.2.2.2.2.2.2.2.2.2.1,s77.2.2.2.2.2.2.2.2.2.2.2.2.2.2.2.1))) (cond (decide (y87.1.1.2.1>10000000000000000)) (some (.inr (false,s77.2.2.1,s77.2.2.2.2.2.2.2.2.2.2.2.2.2.2.1,s77.2.2.2.2.2.2.2.2.2.2.2.2.2.2.2.1,s77.2.1,s77.2.2.1,s77.2.2.2.1,s77.2.2.2.2.1,s77.2.2.2.2.2.1,s77.2.2.2.2.2.2.1,s77.2.2.2.2.2.2.2.1,s77.2.2.2.2.2.2.2.2.1,s77.2.2.2.2.2.2.2.2.2.1,s77.2.2.2.2.2.2.2.2.2.2.1,s77.2.1,s77.2.2.2.1,s77.2.2.2.2.1,s77.2.2.2.2.2.1,s77.2.2.2.2.2.2.1,s77.2.2.2.2.2.2.2.1,s77.2.2.2.2.2.2.2.2.1,s77.2.2.2.2.2.2.2.2.2.1,s77.2.2.2.2.2.2.2.2.2.2.1,s77.2.2.2.2.2.2.2.2.2.2.2.2.2.2.1,s77.2.2.2.2.2.2.2.2.2.2.2.2.2.2.2.1))) (Zb (zcK ([(s77.2.2.2.1,s77.2.2.2.2.1,s77.2.2.2.2.2.1,s77.2.2.2.2.2.2.1,s77.2.2.2.2.2.2.2.1,s77.2.2.2.2.2.2.2.2.1,()),y87.1.2.1])) λy93=>
some (.inl ((w64 (s77.1+1)),(w64 (s77.2.1+100)),s77.2.2.1,y93.1,y93.2.1,y93.2.2.1,y93.2.2.2.1,y93.2.2.2.2.1,y93.2.2.2.2.2.1,(max s77.2.2.2.2.2.2.2.2.2.1 y87.1.2.2.1),(max s77.2.2.2.2.2.2.2.2.2.2.1 y87.1.2.2.2.1),s77.2.2.2.2.2.2.2.2.2.2.2.1,s77.2.2.2.2.2.2.2.2.2.2.2.2.1,s77.2.2.2.2.2.2.2.2.2.2.2.2.2.1,y87.1.1.1,y87.1.1.2.1,s77.2.2.2.2.2.2.2.2.2.2.2.2.2.2.2.2.1,s77.2.2.2.2.2.2.2.2.2.2.2.2.2.2.2.2.2.1,s77.2.2.2.2.2.2.2.2.2.2.2.2.2.2.2.2.2.2.1,s77.2.2.2.2.2.2.2.2.2.2.2.2.2.2.2.2.2.2.2.1,s77.2.2.2.2.2.2.2.2.2.2.2.2.2.2.2.2.2.2.2.2.1,s77.2.2.2.2.2.2.2.2.2.2.2.2.2.2.2.2.2.2.2.2.2.1,s77.2.2.2.2.2.2.2.2.2.2.2.2.2.2.2.2.2.2.2.2.2.2.1,s77.2.2.2.2.2.2.2.2.2.2.2.2.2.2.2.2.2.2.2.2.2.2.2.1,s77.2.2.2.2.2.2.2.2.2.2.2.2.2.2.2.2.2.2.2.2.2.2.2.2))))))) (cond (s77.1==36000) (some (.inr (false,s77.2.2.1,s77.2.2.2.2.2.2.2.2.2.2.2.2.2.2.1,s77.2.2.2.2.2.2.2.2.2.2.2.2.2.2.2.1,s77.2.1,s77.2.2.1,s77.2.2.2.1,s77.2.2.2.2.1,s77.2.2.2.2.2.1,s77.2.2.2.2.2.2.1,s77.2.2.2.2.2.2.2.1,s77.2.2.2.2.2.2.2.2.1,s77.2.2.2.2.2.2.2.2.2.1,s77.2.2.2.2.2.2.2.2.2.2.1,s77.2.1,s77.2.2.2.1,s77.2.2.2.2.1,s77.2.2.2.2.2.1,s77.2.2.2.2.2.2.1,s77.2.2.2.2.2.2.2.1,s77.2.2.2.2.2.2.2.2.1,s77.2.2.2.2.2.2.2.2.2.1,s77.2.2.2.2.2.2.2.2.2.2.1,s77.2.2.2.2.2.2.2.2.2.2.2.2.2.2.1,s77.2.2.2.2.2.2.2.2.2.2.2.2.2.2.2.1))) (Zb (zaC p_0 (s77.2.2.2.2.2.2.2.2.2.2.2.2.2.2.1,s77.2.2.2.2.2.2.2.2.2.2.2.2.2.2.2.1,()) p_2) λy96=>
cond (!y96.2) (some (.inr (false,s77.2.2.1,s77.2.2.2.2.2.2.2.2.2.2.2.2.2.2.1,s77.2.2.2.2.2.2.2.2.2.2.2.2.2.2.2.1,s77.2.1,s77.2.2.1,s77.2.2.2.1,s77.2.2.2.2.1,s77.2.2.2.2.2.1,s77.2.2.2.2.2.2.1,s77.2.2.2.2.2.2.2.1,s77.2.2.2.2.2.2.2.2.1,s77.2.2.2.2.2.2.2.2.2.1,s77.2.2.2.2.2.2.2.2.2.2.1,s77.2.1,s77.2.2.2.1,s77.2.2.2.2.1,s77.2.2.2.2.2.1,s77.2.2.2.2.2.2.1,s77.2.2.2.2.2.2.2.1,s77.2.2.2.2.2.2.2.2.1,s77.2.2.2.2.2.2.2.2.2.1,s77.2.2.2.2.2.2.2.2.2.2.1,s77.2.2.2.2.2.2.2.2.2.2.2.2.2.2.1,s77.2.2.2.2.2.2.2.2.2.2.2.2.2.2.2.1))) (cond (decide (y96.1.1.2.1>10000000000000000)) (some (.inr (false,s77.2.2.1,s77.2.2.2.2.2.2.2.2.2.2.2.2.2.2.1,s77.2.2.2.2.2.2.2.2.2.2.2.2.2.2.2.1,s77.2.1,s77.2.2.1,s77.2.2.2.1,s77.2.2.2.2.1,s77.2.2.2.2.2.1,s77.2.2.2.2.2.2.1,s77.2.2.2.2.2.2.2.1,s77.2.2.2.2.2.2.2.2.1,s77.2.2.2.2.2.2.2.2.2.1,s77.2.2.2.2.2.2.2.2.2.2.1,s77.2.1,s77.2.2.2.1,s77.2.2.2.2.1,s77.2.2.2.2.2.1,s77.2.2.2.2.2.2.1,s77.2.2.2.2.2.2.2.1,s77.2.2.2.2.2.2.2.2.1,s77.2.2.2.2.2.2.2.2.2.1,s77.2.2.2.2.2.2.2.2.2.2.1,s77.2.2.2.2.2.2.2.2.2.2.2.2.2.2.1,s77.2.2.2.2.2.2.2.2.2.2.2.2.2.2.2.1))) (Zb (zcK ([(s77.2.2.2.1,s77.2.2.2.2.1,s77.2.2.2.2.2.1,s77.2.2.2.2.2.2.1,s77.2.2.2.2.2.2.2.1,s77.2.2.2.2.2.2.2.2.1,()),y96.1.2.1])) λy102=>
some (.inl ((w64 (s77.1+1)),(w64 (s77.2.1+100)),s77.2.2.1,y102.1,y102.2.1,y102.2.2.1,y102.2.2.2.1,y102.2.2.2.2.1,y102.2.2.2.2.2.1,(max s77.2.2.2.2.2.2.2.2.2.1 y96.1.2.2.1),(max s77.2.2.2.2.2.2.2.2.2.2.1 y96.1.2.2.2.1),s77.2.2.2.2.2.2.2.2.2.2.2.1,s77.2.2.2.2.2.2.2.2.2.2.2.2.1,s77.2.2.2.2.2.2.2.2.2.2.2.2.2.1,y96.1.1.1,y96.1.1.2.1,s77.2.2.2.2.2.2.2.2.2.2.2.2.2.2.2.2.1,s77.2.2.2.2.2.2.2.2.2.2.2.2.2.2.2.2.2.1,s77.2.2.2.2.2.2.2.2.2.2.2.2.2.2.2.2.2.2.1,s77.2.2.2.2.2.2.2.2.2.2.2.2.2.2.2.2.2.2.2.1,s77.2.2.2.2.2.2.2.2.2.2.2.2.2.2.2.2.2.2.2.2.1,s77.2.2.2.2.2.2.2.2.2.2.2.2.2.2.2.2.2.2.2.2.2.1,s77.2.2.2.2.2.2.2.2.2.2.2.2.2.2.2.2.2.2.2.2.2.2.1,s77.2.2.2.2.2.2.2.2.2.2.2.2.2.2.2.2.2.2.2.2.2.2.2.1,s77.2.2.2.2.2.2.2.2.2.2.2.2.2.2.2.2.2.2.2.2.2.2.2.2)))))))
def zyh:(Bool×Int×Int×Int×Int×Int×Int×Int×Int×Int×Int×Int×Int×Int×Int×Int×Int×Int×Int×Int×Int×Int×Int×Int×Int)->Option (Leg×zd×Bool):=λt103=>
some ((t103.2.2.2.2.1,t103.2.2.2.2.2.1,(t103.2.2.2.2.2.2.1,t103.2.2.2.2.2.2.2.1,t103.2.2.2.2.2.2.2.2.1,t103.2.2.2.2.2.2.2.2.2.1,t103.2.2.2.2.2.2.2.2.2.2.1,t103.2.2.2.2.2.2.2.2.2.2.2.1,()),t103.2.2.2.2.2.2.2.2.2.2.2.2.1,t103.2.2.2.2.2.2.2.2.2.2.2.2.2.1,()),(t103.2.2.1,t103.2.2.2.1,()),t103.1)
theorem zxQ (a b:Int):w64 (w64 a+b)=w64 (a+b):=by
 simp only [w64,IntKind.wrap,IntKind.bits,IntKind.signed]; simp; omega
def zo1 (l m:zV):zV:=(w64 (l.1+m.1),w64 (l.2.1+m.2.1),w64 (l.2.2.1+m.2.2.1),w64 (l.2.2.2.1+m.2.2.2.1),w64 (l.2.2.2.2.1+m.2.2.2.2.1),w64 (l.2.2.2.2.2.1+m.2.2.2.2.2.1),())
theorem zvQ (l m:zV):zcK [l,m]=some (zo1 l m):=by
 unfold zcK;have hL:Lp (λs9:Int×Int×Int×Int×Int×Int×Int=>
cond (decide (s9.1<(zm [l,m]))) (Zb (idx [l,m] s9.1) λx12=>
some (.inl ((w64 (s9.1+1)),(w64 (s9.2.1+x12.1)),(w64 (s9.2.2.1+x12.2.1)),(w64 (s9.2.2.2.1+x12.2.2.1)),(w64 (s9.2.2.2.2.1+x12.2.2.2.1)),(w64 (s9.2.2.2.2.2.1+x12.2.2.2.2.1)),(w64 (s9.2.2.2.2.2.2+x12.2.2.2.2.2.1))))) (some (.inr (s9.2.1,s9.2.2.1,s9.2.2.2.1,s9.2.2.2.2.1,s9.2.2.2.2.2.1,s9.2.2.2.2.2.2)))) 2 (0,0,0,0,0,0,0) (w64 (w64 (0+l.1)+m.1),w64 (w64 (0+l.2.1)+m.2.1),w64 (w64 (0+l.2.2.1)+m.2.2.1),w64 (w64 (0+l.2.2.2.1)+m.2.2.2.1),w64 (w64 (0+l.2.2.2.2.1)+m.2.2.2.2.1),w64 (w64 (0+l.2.2.2.2.2.1)+m.2.2.2.2.2.1)):=Lp.step rfl (Lp.step rfl (Lp.done rfl))
 rw [hL.big (by simp only [big]; omega),Zs];simp only [zxQ,Int.zero_add];rfl
section
variable (p:Plan) (way:List zM) (t:Train) (st stop:Int)
def zmE (x:zd):Bool:=x.1==0&&decide (stop-zA t x<=1000)
def zkO:Nat->Int->zV->Int->Int->zd->Option (Leg×zd)
 | 0,tm,l,a,b,x=>if zmE t stop x then some ((tm,zA t x,l,a,b,()),x) else none
 | n+1,tm,l,a,b,x=>if zmE t stop x then some ((tm,zA t x,l,a,b,()),x) else
  match zqI p way t st stop x with
  | none=>none
  | some d=>zkO n (tm+100) (zo1 l (zc3 p way t st x d).1.2.1) (max a (zc3 p way t st x d).1.2.2.1) (max b (zc3 p way t st x d).1.2.2.2.1) (zc3 p way t st x d).1.1
end
structure zmF (t:Train) (stop:Int) (x:zd):Prop where
 p:0<=x.1/\x.1<=25000*t.1
 w:10*t.1<=x.2.1/\x.2.1<=1000000000000000
 s:zA t x<=stop
section
variable {p:Plan} {way:List zM} {t:Train} {st:Int} {stops:List Int} {x:zd} (hp:zi7 p) (hw:zhv p way) (ht:zkC t) (hst:0<=st/\st<t.2.2.2.2.2.2.2.2.2.1.length) {stop:Int} (hS:stop<=1000000000)
include hp hw ht hst hS
theorem zmv (hx:zmF t stop x) {d:Int} (hd:zqI p way t st stop x=some d):zmF t stop (zc3 p way t st x d).1.1/\(zc3 p way t st x d).1.1.2.1=x.2.1+(zc3 p way t st x d).1.1.1/\zfW p way t stop (zc3 p way t st x d).1.1=true:=by
 obtain ⟨h1,h2,h3⟩:=zkr hd;unfold okD at h1;rw [Bool.and_eq_true] at h1;have hm:=ht.m;have hxw:=hx.w;have hso:zpI t x:=⟨hx.p,⟨by omega,by omega⟩⟩;have hfin:zoT t st d (slS p way t x):=⟨hst,by omega,zg1 hp hw ht hso _⟩;obtain ⟨n1,n2⟩:=zgL ht hfin hx.p hso.w h1.1;have hs:=h1.2;unfold zmu at hs;rw [Bool.and_eq_true] at hs;have hf:=hs.1;unfold zfW at hf;rw [Bool.and_eq_true,decide_eq_true_eq] at hf;refine ⟨⟨n1, ?_,hf.1⟩,n2,hs.1⟩;have n2':(zc3 p way t st x d).1.1.2.1=x.2.1+(zc3 p way t st x d).1.1.1:=n2;have n1':0<=(zc3 p way t st x d).1.1.1/\(zc3 p way t st x d).1.1.1<=25000*t.1:=n1;refine ⟨by omega, ?_⟩;have h5:=hf.1;unfold zA at h5;have h6:(zc3 p way t st x d).1.1.2.1<(stop+1)*(10*t.1):=(Int.ediv_lt_iff_lt_mul (by omega)).1 (by omega);by_cases h0:0<=stop+1
 . have h7:=zck (a:=stop+1) (b:=10*t.1) (A:=1000000001) (B:=800000) ⟨h0,by omega⟩ ⟨by omega,by omega⟩;omega
 . have h8:=Int.mul_nonneg (a:=-(stop+1)) (b:=10*t.1) (by omega) (by omega);rw [Int.neg_mul] at h8;omega
section
variable {k:Nat} {tm l1 l2 l3 l4 l5 l6 a b v w:Int} (hx:zmF t stop (v,w,()))
include hx
omit hp hw hst in
theorem zg2:zpI t (v,w,())/\zR (zjs p way t st stops).1 (v,w,())=some (zA t (v,w,()))/\zL t (v,w,())=some (zA t (v,w,()))/\0<=zA t (v,w,()):=by
 have hm:=ht.m;have hxw:10*t.1<=w/\w<=1000000000000000:=hx.w;have hso:zpI t (v,w,()):=⟨hx.p,⟨by show 0<=w; omega,by show w<=_; omega⟩⟩;have h0:0<=w/(10*t.1):=Int.ediv_nonneg (by omega) (by omega);exact ⟨hso,(zgK ht hso st).1,(zgK ht hso st).2,h0⟩
theorem zpS (ha:zmE t stop (v,w,())=true):∃ T,zxP (zjs p way t st stops) stop ((k:Int),tm,0,l1,l2,l3,l4,l5,l6,a,b,0,0,0,v,w,0,0,0,0,0,0,0,0,0)=some (.inr T)/\zyh T=some ((tm,zA t (v,w,()),(l1,l2,l3,l4,l5,l6,()),a,b,()),(v,w,()),true):=by
 obtain ⟨_,e0,_,h0⟩:=zg2 (stops:=stops) (st:=st) (p:=p) (way:=way) ht hS hx;have hs:=hx.s;unfold zmE at ha;rw [Bool.and_eq_true,beq_iff_eq,decide_eq_true_eq] at ha;obtain ⟨ha1,ha2⟩:=ha;have ha1:v=0:=ha1;subst ha1;have hin:inB (stop-zA t (0,w,())) 0 1000=true:=zI.2 (by omega);unfold zxP;simp only [e0,Zs,show ((0:Int)==0)=true from rfl,cond_true,mwithin,zh (n:=stop-zA t (0,w,())) (by omega) (by omega),hin];exact ⟨_,rfl,rfl⟩
theorem zpT (ha:zmE t stop (v,w,())=false) (hk:k=36000\/zqI p way t st stop (v,w,())=none):∃ T,zxP (zjs p way t st stops) stop ((k:Int),tm,0,l1,l2,l3,l4,l5,l6,a,b,0,0,0,v,w,0,0,0,0,0,0,0,0,0)=some (.inr T)/\∃ L X,zyh T=some (L,X,false):=by
 obtain ⟨hso,e0,_,h0⟩:=zg2 (stops:=stops) (st:=st) (p:=p) (way:=way) ht hS hx;have hs:=hx.s;have hm:=ht.m;have hxw:10*t.1<=w/\w<=1000000000000000:=hx.w;have hc:=znN (stops:=stops) hp hw ht hst hx.p (show 0<=((v,w,()):zd).2.1/\((v,w,()):zd).2.1<=500000000000000000 from ⟨by show 0<=w; omega,by show w<=_; omega⟩) stop;unfold zxP;by_cases hv:v=0
 . subst hv;have hin:inB (stop-zA t (0,w,())) 0 1000=false:=by
    cases h:inB (stop-zA t (0,w,())) 0 1000 with
    | false=>rfl
    | true=>
     have:=zI.1 h;unfold zmE at ha;rw [decide_eq_true (by omega)] at ha;cases ha
   simp only [e0,Zs,show ((0:Int)==0)=true from rfl,cond_true,mwithin,zh (n:=stop-zA t (0,w,())) (by omega) (by omega),hin,cond_false];by_cases hk0:k=36000
   . subst hk0;exact ⟨_,rfl,_,_,rfl⟩
   . have hkb:((k:Int)==36000)=false:=by simp; omega
     have hd:=hk.resolve_left hk0;rw [hd] at hc;simp only [hkb,cond_false,hc,Zs,Bool.not_false,cond_true];exact ⟨_,rfl,_,_,rfl⟩
 . have hvb:(v==0)=false:=by simpa using hv
   simp only [e0,Zs,hvb,cond_false];by_cases hk0:k=36000
   . subst hk0;exact ⟨_,rfl,_,_,rfl⟩
   . have hkb:((k:Int)==36000)=false:=by simp; omega
     have hd:=hk.resolve_left hk0;rw [hd] at hc;simp only [hkb,cond_false,hc,Zs,Bool.not_false,cond_true];exact ⟨_,rfl,_,_,rfl⟩
theorem zxR (ha:zmE t stop (v,w,())=false) (hk:k<36000) (htm:0<=tm/\tm<=3600000) {d:Int} (hd:zqI p way t st stop (v,w,())=some d):zxP (zjs p way t st stops) stop ((k:Int),tm,0,l1,l2,l3,l4,l5,l6,a,b,0,0,0,v,w,0,0,0,0,0,0,0,0,0)=some (.inl (((k+1:Nat):Int),tm+100,0,(zo1 (l1,l2,l3,l4,l5,l6,()) (zc3 p way t st (v,w,()) d).1.2.1).1,(zo1 (l1,l2,l3,l4,l5,l6,()) (zc3 p way t st (v,w,()) d).1.2.1).2.1,(zo1 (l1,l2,l3,l4,l5,l6,()) (zc3 p way t st (v,w,()) d).1.2.1).2.2.1,(zo1 (l1,l2,l3,l4,l5,l6,()) (zc3 p way t st (v,w,()) d).1.2.1).2.2.2.1,(zo1 (l1,l2,l3,l4,l5,l6,()) (zc3 p way t st (v,w,()) d).1.2.1).2.2.2.2.1,(zo1 (l1,l2,l3,l4,l5,l6,()) (zc3 p way t st (v,w,()) d).1.2.1).2.2.2.2.2.1,max a (zc3 p way t st (v,w,()) d).1.2.2.1,max b (zc3 p way t st (v,w,()) d).1.2.2.2.1,0,0,0,(zc3 p way t st (v,w,()) d).1.1.1,(zc3 p way t st (v,w,()) d).1.1.2.1,0,0,0,0,0,0,0,0,0)):=by
 obtain ⟨hso,e0,_,h0⟩:=zg2 (stops:=stops) (st:=st) (p:=p) (way:=way) ht hS hx;have hs:=hx.s;have hm:=ht.m;have hxw:10*t.1<=w/\w<=1000000000000000:=hx.w;have hc:=znN (stops:=stops) hp hw ht hst hx.p (show 0<=((v,w,()):zd).2.1/\((v,w,()):zd).2.1<=500000000000000000 from ⟨by show 0<=w; omega,by show w<=_; omega⟩) stop;have hnw:=(zmv hp hw ht hst hS hx hd).1.w;have hkb:((k:Int)==36000)=false:=by simp; omega
 rw [hd] at hc;unfold zxP;by_cases hv:v=0
 . subst hv;have hin:inB (stop-zA t (0,w,())) 0 1000=false:=by
    cases h:inB (stop-zA t (0,w,())) 0 1000 with
    | false=>rfl
    | true=>
     have:=zI.1 h;unfold zmE at ha;rw [decide_eq_true (by omega)] at ha;cases ha
   simp only [e0,Zs,show ((0:Int)==0)=true from rfl,cond_true,mwithin,zh (n:=stop-zA t (0,w,())) (by omega) (by omega),hin,cond_false,hkb,hc,Bool.not_true,decide_eq_false (show ¬ (zc3 p way t st (0,w,()) d).1.1.2.1>10000000000000000 by omega),zvQ,zy (show k<9223372036854775807 by omega),zh (n:=tm+100) (by omega) (by omega)]
 . have hvb:(v==0)=false:=by simpa using hv
   simp only [e0,Zs,hvb,cond_false,hkb,hc,Bool.not_true,decide_eq_false (show ¬ (zc3 p way t st (v,w,()) d).1.1.2.1>10000000000000000 by omega),zvQ,zy (show k<9223372036854775807 by omega),zh (n:=tm+100) (by omega) (by omega)]
end
theorem zva:∀ (n k:Nat) (tm l1 l2 l3 l4 l5 l6 a b v w:Int),k+n=36000->tm=100*k->zmF t stop (v,w,())->∃ T,Lp (zxP (zjs p way t st stops) stop) n ((k:Int),tm,0,l1,l2,l3,l4,l5,l6,a,b,0,0,0,v,w,0,0,0,0,0,0,0,0,0) T/\(match zkO p way t st stop n tm (l1,l2,l3,l4,l5,l6,()) a b (v,w,()) with | some (g,y)=>zyh T=some (g,y,true) | none=>∃ L X,zyh T=some (L,X,false)):=by
 intro n;induction n with
 | zero=>
  intro k tm l1 l2 l3 l4 l5 l6 a b v w hk htm hx;unfold zkO;cases ha:zmE t stop (v,w,()) with
  | true=>
   obtain ⟨T,h1,h2⟩:=zpS (stops:=stops) (k:=k) (tm:=tm) (l1:=l1) (l2:=l2) (l3:=l3) (l4:=l4) (l5:=l5) (l6:=l6) (a:=a) (b:=b) hp hw ht hst hS hx ha;exact ⟨T,Lp.done h1,h2⟩
  | false=>
   obtain ⟨T,h1,h2⟩:=zpT (stops:=stops) (k:=k) (tm:=tm) (l1:=l1) (l2:=l2) (l3:=l3) (l4:=l4) (l5:=l5) (l6:=l6) (a:=a) (b:=b) hp hw ht hst hS hx ha (.inl (by omega));exact ⟨T,Lp.done h1,h2⟩
 | succ n ih=>
  intro k tm l1 l2 l3 l4 l5 l6 a b v w hk htm hx;unfold zkO;cases ha:zmE t stop (v,w,()) with
  | true=>
   obtain ⟨T,h1,h2⟩:=zpS (stops:=stops) (k:=k) (tm:=tm) (l1:=l1) (l2:=l2) (l3:=l3) (l4:=l4) (l5:=l5) (l6:=l6) (a:=a) (b:=b) hp hw ht hst hS hx ha;exact ⟨T,Lp.done h1,h2⟩
  | false=>
   cases hd:zqI p way t st stop (v,w,()) with
   | none=>
    obtain ⟨T,h1,h2⟩:=zpT (stops:=stops) (k:=k) (tm:=tm) (l1:=l1) (l2:=l2) (l3:=l3) (l4:=l4) (l5:=l5) (l6:=l6) (a:=a) (b:=b) hp hw ht hst hS hx ha (.inr hd);exact ⟨T,Lp.done h1,h2⟩
   | some d=>
    have h1:=zxR (stops:=stops) (k:=k) (tm:=tm) (l1:=l1) (l2:=l2) (l3:=l3) (l4:=l4) (l5:=l5) (l6:=l6) (a:=a) (b:=b) hp hw ht hst hS hx ha (by omega) (by omega) hd;obtain ⟨T,h2,h3⟩:=ih (k+1) (tm+100) _ _ _ _ _ _ (max a (zc3 p way t st (v,w,()) d).1.2.2.1) (max b (zc3 p way t st (v,w,()) d).1.2.2.2.1) (zc3 p way t st (v,w,()) d).1.1.1 (zc3 p way t st (v,w,()) d).1.1.2.1 (by omega) (by omega) (zmv hp hw ht hst hS hx hd).1;exact ⟨T,Lp.step h1 h2,h3⟩
theorem zzh (hx:zmF t stop x):∃ L X,zbd (zjs p way t st stops) x stop=some (match zkO p way t st stop 36000 0 (0,0,0,0,0,0,()) 0 0 x with | some (g,y)=>(g,y,true) | none=>(L,X,false)):=by
 obtain ⟨T,h1,h2⟩:=zva (stops:=stops) hp hw ht hst hS 36000 0 0 0 0 0 0 0 0 0 0 x.1 x.2.1 (by omega) (by omega) hx;have hB:=h1.big (by simp only [big]; omega);have e:zbd (zjs p way t st stops) x stop=zyh T:=(congrArg (λo=>Zb o zyh) hB);rw [e];have e2:((x.1,x.2.1,()):zd)=x:=rfl;rw [e2] at h2;cases hl:zkO p way t st stop 36000 0 (0,0,0,0,0,0,()) 0 0 x with
 | some g=>rw [hl] at h2; exact ⟨default,default,h2⟩
 | none=>
  rw [hl] at h2;obtain ⟨L,X,h2⟩:=h2;exact ⟨L,X,h2⟩
end
end Go.Ai.Sx
/- Motion: the reference's leg. -/
namespace Go.Ai.Sx
open Option renaming bind->Zb,bind_some->Zs
def zmw (p_0:Plan) (p_1:List zM) (p_2:Train) (p_3:Int) (p_4:List Int) (i_281:Int) (x286:Int):(Int×Int×Int×Int×Int×Int×Int×Int×Int×Int×Int×Int)->Option ((Int×Int×Int×Int×Int×Int×Int×Int×Int×Int×Int×Int)⊕((Train×zd×Int×(List Int)×Int×Int×Int×Int×Bool×Int×Int×Int×Int×Int×Int×Int×Int×Int×Int×Int)⊕((List Leg)×Bool×Int×Int×Int×Int×Int×Int×Int×Int×Int×Int×Int))):=(λs371=>
cond (decide (s371.2.2.2.2.2.2.2.2.2.2.1>0)) (cond (s371.1==36000) (some (.inr (.inr ([],false,s371.2.1,s371.2.2.1,s371.2.2.2.1,s371.2.2.2.2.1,s371.2.2.2.2.2.1,s371.2.2.2.2.2.2.1,s371.2.2.2.2.2.2.2.1,s371.2.2.2.2.2.2.2.2.1,s371.2.2.2.2.2.2.2.2.2.1,s371.2.2.2.2.2.2.2.2.2.2.1,s371.2.2.2.2.2.2.2.2.2.2.2)))) (cond (decide (s371.2.2.2.2.2.2.2.2.2.2.2>10000000000000000)) (some (.inr (.inr ([],false,s371.2.1,s371.2.2.1,s371.2.2.2.1,s371.2.2.2.2.1,s371.2.2.2.2.2.1,s371.2.2.2.2.2.2.1,s371.2.2.2.2.2.2.2.1,s371.2.2.2.2.2.2.2.2.1,s371.2.2.2.2.2.2.2.2.2.1,s371.2.2.2.2.2.2.2.2.2.2.1,s371.2.2.2.2.2.2.2.2.2.2.2)))) (Zb (zci ((p_0,p_1,p_2,p_3,x286,()):zY) (s371.2.2.2.2.2.2.2.2.2.2.1,s371.2.2.2.2.2.2.2.2.2.2.2,())) λy385=>
cond (!y385.2) (some (.inr (.inr ([],false,s371.2.1,s371.2.2.1,s371.2.2.2.1,s371.2.2.2.2.1,s371.2.2.2.2.2.1,s371.2.2.2.2.2.2.1,s371.2.2.2.2.2.2.2.1,s371.2.2.2.2.2.2.2.2.1,s371.2.2.2.2.2.2.2.2.2.1,s371.2.2.2.2.2.2.2.2.2.2.1,s371.2.2.2.2.2.2.2.2.2.2.2)))) (Zb (zL p_2 (s371.2.2.2.2.2.2.2.2.2.2.1,s371.2.2.2.2.2.2.2.2.2.2.2,())) λy389=>
Zb (zaT ((p_0,p_1,p_2,p_3,x286,()):zY) y389) λy390=>
Zb (zbB p_2 (s371.2.2.2.2.2.2.2.2.2.2.1,s371.2.2.2.2.2.2.2.2.2.2.2,()) y385.1 y390 p_3) λy391=>
Zb (zay p_2 (s371.2.2.2.2.2.2.2.2.2.2.1,s371.2.2.2.2.2.2.2.2.2.2.2,()) y385.1 y390 p_3) λy392=>
Zb (zeq (s371.2.2.1,s371.2.2.2.1,s371.2.2.2.2.1,s371.2.2.2.2.2.1,s371.2.2.2.2.2.2.1,s371.2.2.2.2.2.2.2.1,()) y392.2.1) λy395=>
some (.inl ((w64 (s371.1+1)),(w64 (s371.2.1+100)),y395.1,y395.2.1,y395.2.2.1,y395.2.2.2.1,y395.2.2.2.2.1,y395.2.2.2.2.2.1,(max s371.2.2.2.2.2.2.2.2.1 y391.1),(max s371.2.2.2.2.2.2.2.2.2.1 y391.2),y392.1.1,y392.1.2.1)))))) (Zb (zL p_2 (s371.2.2.2.2.2.2.2.2.2.2.1,s371.2.2.2.2.2.2.2.2.2.2.2,())) λy396=>
Zb (idx p_4 i_281) λx397=>
cond (decide (y396<(w64 (x397-1000)))) (cond (s371.1==36000) (some (.inr (.inr ([],false,s371.2.1,s371.2.2.1,s371.2.2.2.1,s371.2.2.2.2.1,s371.2.2.2.2.2.1,s371.2.2.2.2.2.2.1,s371.2.2.2.2.2.2.2.1,s371.2.2.2.2.2.2.2.2.1,s371.2.2.2.2.2.2.2.2.2.1,s371.2.2.2.2.2.2.2.2.2.2.1,s371.2.2.2.2.2.2.2.2.2.2.2)))) (cond (decide (s371.2.2.2.2.2.2.2.2.2.2.2>10000000000000000)) (some (.inr (.inr ([],false,s371.2.1,s371.2.2.1,s371.2.2.2.1,s371.2.2.2.2.1,s371.2.2.2.2.2.1,s371.2.2.2.2.2.2.1,s371.2.2.2.2.2.2.2.1,s371.2.2.2.2.2.2.2.2.1,s371.2.2.2.2.2.2.2.2.2.1,s371.2.2.2.2.2.2.2.2.2.2.1,s371.2.2.2.2.2.2.2.2.2.2.2)))) (Zb (zci ((p_0,p_1,p_2,p_3,x286,()):zY) (s371.2.2.2.2.2.2.2.2.2.2.1,s371.2.2.2.2.2.2.2.2.2.2.2,())) λy403=>
cond (!y403.2) (some (.inr (.inr ([],false,s371.2.1,s371.2.2.1,s371.2.2.2.1,s371.2.2.2.2.1,s371.2.2.2.2.2.1,s371.2.2.2.2.2.2.1,s371.2.2.2.2.2.2.2.1,s371.2.2.2.2.2.2.2.2.1,s371.2.2.2.2.2.2.2.2.2.1,s371.2.2.2.2.2.2.2.2.2.2.1,s371.2.2.2.2.2.2.2.2.2.2.2)))) (Zb (zL p_2 (s371.2.2.2.2.2.2.2.2.2.2.1,s371.2.2.2.2.2.2.2.2.2.2.2,())) λy407=>
Zb (zaT ((p_0,p_1,p_2,p_3,x286,()):zY) y407) λy408=>
Zb (zbB p_2 (s371.2.2.2.2.2.2.2.2.2.2.1,s371.2.2.2.2.2.2.2.2.2.2.2,()) y403.1 y408 p_3) λy409=>
Zb (zay p_2 (s371.2.2.2.2.2.2.2.2.2.2.1,s371.2.2.2.2.2.2.2.2.2.2.2,()) y403.1 y408 p_3) λy410=>
Zb (zeq (s371.2.2.1,s371.2.2.2.1,s371.2.2.2.2.1,s371.2.2.2.2.2.1,s371.2.2.2.2.2.2.1,s371.2.2.2.2.2.2.2.1,()) y410.2.1) λy413=>
some (.inl ((w64 (s371.1+1)),(w64 (s371.2.1+100)),y413.1,y413.2.1,y413.2.2.1,y413.2.2.2.1,y413.2.2.2.2.1,y413.2.2.2.2.2.1,(max s371.2.2.2.2.2.2.2.2.1 y409.1),(max s371.2.2.2.2.2.2.2.2.2.1 y409.2),y410.1.1,y410.1.2.1)))))) (some (.inr (.inl (p_2,(s371.2.2.2.2.2.2.2.2.2.2.1,s371.2.2.2.2.2.2.2.2.2.2.2,()),y396,p_4,i_281,x397,x397,(w64 (x397-1000)),(decide (y396<(w64 (x397-1000)))),s371.2.1,s371.2.2.1,s371.2.2.2.1,s371.2.2.2.2.1,s371.2.2.2.2.2.1,s371.2.2.2.2.2.2.1,s371.2.2.2.2.2.2.2.1,s371.2.2.2.2.2.2.2.2.1,s371.2.2.2.2.2.2.2.2.2.1,s371.2.2.2.2.2.2.2.2.2.2.1,s371.2.2.2.2.2.2.2.2.2.2.2))))))
def zqJ (p_2:Train) (a_281:List Leg) (i_281:Int):((Train×zd×Int×(List Int)×Int×Int×Int×Int×Bool×Int×Int×Int×Int×Int×Int×Int×Int×Int×Int×Int)⊕((List Leg)×Bool×Int×Int×Int×Int×Int×Int×Int×Int×Int×Int×Int))->Option (((List Leg)×Int×Int×Int)⊕(((List Leg)×Int×Int)⊕((List Leg)×Bool))):=λt414=>
alt (λb416=>Zb (zL p_2 (b416.2.2.2.2.2.2.2.2.2.2.2.2.2.2.2.2.2.2.1,b416.2.2.2.2.2.2.2.2.2.2.2.2.2.2.2.2.2.2.2,())) λy418=>
Zb (zdp 80 a_281 ([(b416.2.2.2.2.2.2.2.2.2.1,y418,(b416.2.2.2.2.2.2.2.2.2.2.1,b416.2.2.2.2.2.2.2.2.2.2.2.1,b416.2.2.2.2.2.2.2.2.2.2.2.2.1,b416.2.2.2.2.2.2.2.2.2.2.2.2.2.1,b416.2.2.2.2.2.2.2.2.2.2.2.2.2.2.1,b416.2.2.2.2.2.2.2.2.2.2.2.2.2.2.2.1,()),b416.2.2.2.2.2.2.2.2.2.2.2.2.2.2.2.2.1,b416.2.2.2.2.2.2.2.2.2.2.2.2.2.2.2.2.2.1,())])) λx419=>
some (.inl (x419,(w64 (i_281+1)),b416.2.2.2.2.2.2.2.2.2.2.2.2.2.2.2.2.2.2.1,b416.2.2.2.2.2.2.2.2.2.2.2.2.2.2.2.2.2.2.2))) (λb417=>some (.inr (.inr (b417.1,b417.2.1)))) t414
section
variable {p:Plan} {way:List zM} {t:Train} {st:Int} {stops:List Int} {x:zd} (hp:zi7 p) (hw:zhv p way) (ht:zkC t) (hst:0<=st/\st<t.2.2.2.2.2.2.2.2.2.1.length) {stop:Int} (hS:stop<=1000000000) {i:Int} (hi:idx stops i=some stop) (hi0:0<=i/\i<=1000000) (hs0:0<=stop)
include hp hw ht hst hS hi hi0 hs0
section
variable {k:Nat} {tm l1 l2 l3 l4 l5 l6 a b v w:Int} (hx:zmF t stop (v,w,()))
include hx
theorem znP (ha:zmE t stop (v,w,())=true):∃ T,zmw p way t st stops i stop ((k:Int),tm,l1,l2,l3,l4,l5,l6,a,b,v,w)=some (.inr T)/\∀ acc:List Leg,acc.length<=1000000->zqJ t acc i T=some (.inl (acc++[(tm,zA t (v,w,()),(l1,l2,l3,l4,l5,l6,()),a,b,())],w64 (i+1),v,w)):=by
 obtain ⟨_,_,e0,h0⟩:=zg2 (stops:=stops) (st:=st) (p:=p) (way:=way) ht hS hx;have hs:=hx.s;unfold zmE at ha;rw [Bool.and_eq_true,beq_iff_eq,decide_eq_true_eq] at ha;obtain ⟨ha1,ha2⟩:=ha;have ha1:v=0:=ha1;subst ha1;unfold zmw;simp only [e0,Zs,decide_eq_false (show ¬ (0:Int)>0 by omega),cond_false,hi,zh (n:=stop-1000) (by omega) (by omega),decide_eq_false (show ¬ zA t (0,w,())<stop-1000 by omega)];refine ⟨_,rfl,λacc hacc=>?_⟩;unfold zqJ;simp only [zaG,e0,Zs];rw [zaF (by simp; omega),Zs]
theorem znQ (ha:zmE t stop (v,w,())=false) (hk:k=36000\/zqI p way t st stop (v,w,())=none):∃ T,zmw p way t st stops i stop ((k:Int),tm,l1,l2,l3,l4,l5,l6,a,b,v,w)=some (.inr T)/\∀ acc:List Leg,zqJ t acc i T=some (.inr (.inr ([],false))):=by
 obtain ⟨hso,_,e0,h0⟩:=zg2 (stops:=stops) (st:=st) (p:=p) (way:=way) ht hS hx;have hs:=hx.s;have hm:=ht.m;have hxw:10*t.1<=w/\w<=1000000000000000:=hx.w;have hxp:0<=v/\v<=25000*t.1:=hx.p;have hc:=znO hp hw ht hst hx.p (show 10*t.1<=((v,w,()):zd).2.1/\((v,w,()):zd).2.1<=500000000000000000 from ⟨by show _<=w; omega,by show w<=_; omega⟩) stop;unfold zmw;by_cases hv:v=0
 . subst hv;have hlt:zA t (0,w,())<stop-1000:=by
    unfold zmE at ha;rw [show (((0,w,()):zd).1==0)=true from rfl,Bool.true_and,decide_eq_false_iff_not] at ha;omega
   simp only [e0,Zs,decide_eq_false (show ¬ (0:Int)>0 by omega),cond_false,hi,zh (n:=stop-1000) (by omega) (by omega),decide_eq_true hlt,cond_true];by_cases hk0:k=36000
   . subst hk0;exact ⟨_,rfl,λacc=>rfl⟩
   . have hkb:((k:Int)==36000)=false:=by simp; omega
     have hd:=hk.resolve_left hk0;rw [hd] at hc;simp only [hkb,cond_false,decide_eq_false (show ¬ w>10000000000000000 by omega),hc,Zs,Bool.not_false,cond_true];exact ⟨_,rfl,λacc=>rfl⟩
 . simp only [decide_eq_true (show v>0 by omega),cond_true];by_cases hk0:k=36000
   . subst hk0;exact ⟨_,rfl,λacc=>rfl⟩
   . have hkb:((k:Int)==36000)=false:=by simp; omega
     have hd:=hk.resolve_left hk0;rw [hd] at hc;simp only [hkb,cond_false,decide_eq_false (show ¬ w>10000000000000000 by omega),hc,Zs,Bool.not_false,cond_true];exact ⟨_,rfl,λacc=>rfl⟩
theorem zvb (ha:zmE t stop (v,w,())=false) (hk:k<36000) (htm:0<=tm/\tm<=3600000) {d:Int} (hd:zqI p way t st stop (v,w,())=some d):zmw p way t st stops i stop ((k:Int),tm,l1,l2,l3,l4,l5,l6,a,b,v,w)=some (.inl (((k+1:Nat):Int),tm+100,(zo1 (l1,l2,l3,l4,l5,l6,()) (zc3 p way t st (v,w,()) d).1.2.1).1,(zo1 (l1,l2,l3,l4,l5,l6,()) (zc3 p way t st (v,w,()) d).1.2.1).2.1,(zo1 (l1,l2,l3,l4,l5,l6,()) (zc3 p way t st (v,w,()) d).1.2.1).2.2.1,(zo1 (l1,l2,l3,l4,l5,l6,()) (zc3 p way t st (v,w,()) d).1.2.1).2.2.2.1,(zo1 (l1,l2,l3,l4,l5,l6,()) (zc3 p way t st (v,w,()) d).1.2.1).2.2.2.2.1,(zo1 (l1,l2,l3,l4,l5,l6,()) (zc3 p way t st (v,w,()) d).1.2.1).2.2.2.2.2.1,max a (zc3 p way t st (v,w,()) d).1.2.2.1,max b (zc3 p way t st (v,w,()) d).1.2.2.2.1,(zc3 p way t st (v,w,()) d).1.1.1,(zc3 p way t st (v,w,()) d).1.1.2.1)):=by
 obtain ⟨hso,_,e0,h0⟩:=zg2 (stops:=stops) (st:=st) (p:=p) (way:=way) ht hS hx;have hs:=hx.s;have hm:=ht.m;have hxw:10*t.1<=w/\w<=1000000000000000:=hx.w;have hxp:0<=v/\v<=25000*t.1:=hx.p;have hc:=znO hp hw ht hst hx.p (show 10*t.1<=((v,w,()):zd).2.1/\((v,w,()):zd).2.1<=500000000000000000 from ⟨by show _<=w; omega,by show w<=_; omega⟩) stop;have hkb:((k:Int)==36000)=false:=by simp; omega
 rw [hd] at hc;obtain ⟨_,q2,q3⟩:=zkr hd;have hfin:zoT t st d (zeW p way (zA t (v,w,()))):=⟨hst,by omega,zg1 hp hw ht hso _⟩;have hsl:=zfV (st:=st) (stop:=stop) hp hw ht (show 0<=zA t (v,w,())/\zA t (v,w,())<=4000000000000000000 by omega);have hpw:zbB t (v,w,()) d (zeW p way (zA t (v,w,()))) st=some ((zc3 p way t st (v,w,()) d).1.2.2.1,(zc3 p way t st (v,w,()) d).1.2.2.2.1):=zy9 ht hfin hso;have hsp:zay t (v,w,()) d (zeW p way (zA t (v,w,()))) st=some ((zc3 p way t st (v,w,()) d).1.1,(zc3 p way t st (v,w,()) d).1.2.1,(zc3 p way t st (v,w,()) d).2):=zmg ht hfin hso;have hsm:∀ l m:zV,zeq l m=some (zo1 l m):=λl m=>rfl;unfold zmw;by_cases hv:v=0
 . subst hv;have hlt:zA t (0,w,())<stop-1000:=by
    unfold zmE at ha;rw [show (((0,w,()):zd).1==0)=true from rfl,Bool.true_and,decide_eq_false_iff_not] at ha;omega
   simp only [e0,Zs,decide_eq_false (show ¬ (0:Int)>0 by omega),cond_false,hi,zh (n:=stop-1000) (by omega) (by omega),decide_eq_true hlt,cond_true,hkb,decide_eq_false (show ¬ w>10000000000000000 by omega),hc,Bool.not_true,hsl,hpw,hsp,hsm,zy (show k<9223372036854775807 by omega),zh (n:=tm+100) (by omega) (by omega)]
 . simp only [e0,Zs,decide_eq_true (show v>0 by omega),cond_true,cond_false,hkb,decide_eq_false (show ¬ w>10000000000000000 by omega),hc,Bool.not_true,hsl,hpw,hsp,hsm,zy (show k<9223372036854775807 by omega),zh (n:=tm+100) (by omega) (by omega)]
end
theorem zsK:∀ (n k:Nat) (tm l1 l2 l3 l4 l5 l6 a b v w:Int),k+n=36000->tm=100*k->zmF t stop (v,w,())->∃ T,Lp (zmw p way t st stops i stop) n ((k:Int),tm,l1,l2,l3,l4,l5,l6,a,b,v,w) T/\∀ acc:List Leg,acc.length<=1000000->zqJ t acc i T=some (match zkO p way t st stop n tm (l1,l2,l3,l4,l5,l6,()) a b (v,w,()) with | some (g,y)=>.inl (acc++[g],w64 (i+1),y.1,y.2.1) | none=>.inr (.inr ([],false))):=by
 intro n;induction n with
 | zero=>
  intro k tm l1 l2 l3 l4 l5 l6 a b v w hk htm hx;unfold zkO;cases ha:zmE t stop (v,w,()) with
  | true=>
   obtain ⟨T,h1,h2⟩:=znP (k:=k) (tm:=tm) (l1:=l1) (l2:=l2) (l3:=l3) (l4:=l4) (l5:=l5) (l6:=l6) (a:=a) (b:=b) hp hw ht hst hS hi hi0 hs0 hx ha;exact ⟨T,Lp.done h1,h2⟩
  | false=>
   obtain ⟨T,h1,h2⟩:=znQ (k:=k) (tm:=tm) (l1:=l1) (l2:=l2) (l3:=l3) (l4:=l4) (l5:=l5) (l6:=l6) (a:=a) (b:=b) hp hw ht hst hS hi hi0 hs0 hx ha (.inl (by omega));exact ⟨T,Lp.done h1,λacc _=>h2 acc⟩
 | succ n ih=>
  intro k tm l1 l2 l3 l4 l5 l6 a b v w hk htm hx;unfold zkO;cases ha:zmE t stop (v,w,()) with
  | true=>
   obtain ⟨T,h1,h2⟩:=znP (k:=k) (tm:=tm) (l1:=l1) (l2:=l2) (l3:=l3) (l4:=l4) (l5:=l5) (l6:=l6) (a:=a) (b:=b) hp hw ht hst hS hi hi0 hs0 hx ha;exact ⟨T,Lp.done h1,h2⟩
  | false=>
   cases hd:zqI p way t st stop (v,w,()) with
   | none=>
    obtain ⟨T,h1,h2⟩:=znQ (k:=k) (tm:=tm) (l1:=l1) (l2:=l2) (l3:=l3) (l4:=l4) (l5:=l5) (l6:=l6) (a:=a) (b:=b) hp hw ht hst hS hi hi0 hs0 hx ha (.inr hd);exact ⟨T,Lp.done h1,λacc _=>h2 acc⟩
   | some d=>
    have h1:=zvb (k:=k) (tm:=tm) (l1:=l1) (l2:=l2) (l3:=l3) (l4:=l4) (l5:=l5) (l6:=l6) (a:=a) (b:=b) hp hw ht hst hS hi hi0 hs0 hx ha (by omega) (by omega) hd;obtain ⟨T,h2,h3⟩:=ih (k+1) (tm+100) _ _ _ _ _ _ (max a (zc3 p way t st (v,w,()) d).1.2.2.1) (max b (zc3 p way t st (v,w,()) d).1.2.2.2.1) (zc3 p way t st (v,w,()) d).1.1.1 (zc3 p way t st (v,w,()) d).1.1.2.1 (by omega) (by omega) (zmv hp hw ht hst hS hx hd).1;exact ⟨T,Lp.step h1 h2,h3⟩
theorem zxS (hx:zmF t stop x) (acc:List Leg) (hacc:acc.length<=1000000):Zb (iter (zmw p way t st stops i stop) big (0,0,0,0,0,0,0,0,0,0,x.1,x.2.1)) (zqJ t acc i)=some (match zkO p way t st stop 36000 0 (0,0,0,0,0,0,()) 0 0 x with | some (g,y)=>.inl (acc++[g],w64 (i+1),y.1,y.2.1) | none=>.inr (.inr ([],false))):=by
 obtain ⟨T,h1,h2⟩:=zsK hp hw ht hst hS hi hi0 hs0 36000 0 0 0 0 0 0 0 0 0 0 x.1 x.2.1 (by omega) (by omega) hx;have hB:=h1.big (by simp only [big]; omega);rw [show ((0:Nat):Int)=0 from rfl] at hB;rw [hB,Zs];exact h2 acc hacc
end
end Go.Ai.Sx
/- Motion: a run begins. -/
namespace Go.Ai.Sx
open Option renaming bind->Zb,bind_some->Zs
def zdo (stops:List Int) (k:Nat):Int:=stops.getD k 0
def zzi (stops:List Int):Bool:=(List.range (stops.length-1)).all λk=>!decide (zdo stops (k+1)<=zdo stops k)
def zeO (p:Plan) (way:List zM) (t:Train) (st:Int) (stops:List Int):Bool:=
 zat p&&(zkD p way&&(trB t&&(inB st 0 (t.2.2.2.2.2.2.2.2.2.1.length-1)&&(inB (zm stops) 2 100&&(!decide (zdo stops 0<t.2.1)&&(zzi stops&&decide (zdo stops (stops.length-1)<=wlS p way)))))))
theorem zpU {stops:List Int} (hl:2<=stops.length/\stops.length<=100) {τ:Type} (r0 r1:τ) {F:Int->Option (Int⊕τ)}
 (hF:∀ s,F s=cond (decide (s<(zm stops))) (Zb (idx stops s) λx37=>
Zb (idx stops (w64 (s-1))) λx38=>
cond (decide (x37<=x38)) (some (.inr r0)) (some (.inl (w64 (s+1))))) (some (.inr r1))):iter F big 1=some (if zzi stops then r1 else r0):=by
 refine zbn (λk=>((k+1:Nat):Int)) (stops.length-1) (λk=>!decide (zdo stops (k+1)<=zdo stops k)) r0 r1 rfl (by simp only [big]; omega) (λk hk=>?_) ?_
 . rw [hF,zF (show k+1<stops.length by omega),cond_true,zn 0 (by omega),Zs,show w64 (((k+1:Nat):Int)-1)=(k:Int) by rw [zh (by omega) (by omega)]; omega,zn 0 (by omega),Zs,zy (by omega)];show cond (decide (zdo stops (k+1)<=zdo stops k)) _ _=_;cases decide (zdo stops (k+1)<=zdo stops k)<;>rfl
 . rw [hF,show stops.length-1+1=stops.length by omega,zG]; rfl
theorem zmx {A:Type} (n:Nat) (f:Nat->A):rlN (n+1) f=rlN n f++[f n]:=by
 unfold rlN;rw [List.range_succ,List.map_append]; rfl
theorem zsL {stops:List Int} (hl:2<=stops.length/\stops.length<=100):idx stops (w64 (zm stops-1))=some (zdo stops (stops.length-1)):=by
 rw [zp,show w64 ((stops.length:Int)-1)=((stops.length-1:Nat):Int) by rw [zh (by omega) (by omega)]; omega];exact zn 0 (by omega)
theorem zvc {p:Plan} {way:List zM} {t:Train} (hv:zat p=true) (hp:zi7 p) (hw:zhv p way):iter (σ:=(Int×Int×(List Int)×(List Int)×(List Int))) (τ:=((List Int)×(List Int)×(List Int))⊕((Option zan)×Bool×(List Int)×(List Int)×(List Int))) (λs110=>
cond (decide (s110.2.1<(zm way))) (Zb (idx way s110.2.1) λx113=>
Zb (zbX p x113.1) λy115=>
cond (y115.2 !=0) (some (.inr (.inr ((none:Option zan),false,s110.2.2.2.2,s110.2.2.2.1,s110.2.2.1)))) (Zb (idx p.2.1 x113.1) λx117=>
cond (x113.2.1) (Zb (zdp 8 s110.2.2.2.2 ([(w64 (s110.1+y115.1))])) λx126=>
Zb (zdp 8 s110.2.2.2.1 ([x117.2.2.2.1])) λx128=>
Zb (zdp 8 s110.2.2.1 ([(w64 (0-x117.2.2.2.2.1))])) λx130=>
some (.inl ((w64 (s110.1+y115.1)),(w64 (s110.2.1+1)),x130,x128,x126))) (Zb (zdp 8 s110.2.2.2.2 ([(w64 (s110.1+y115.1))])) λx138=>
Zb (zdp 8 s110.2.2.2.1 ([x117.2.2.2.1])) λx140=>
Zb (zdp 8 s110.2.2.1 ([x117.2.2.2.2.1])) λx142=>
some (.inl ((w64 (s110.1+y115.1)),(w64 (s110.2.1+1)),x142,x140,x138))))) (some (.inr (.inl (s110.2.2.2.2,s110.2.2.2.1,s110.2.2.1))))) big (0,0,[],[],[])=some (.inl (zfU p way,znI p way,znJ p way)):=by
  have hn:=hw.n;have key:∀ (k i:Nat),i+k=way.length->Lp (σ:=(Int×Int×(List Int)×(List Int)×(List Int))) (τ:=((List Int)×(List Int)×(List Int))⊕((Option zan)×Bool×(List Int)×(List Int)×(List Int))) (λs110=>
cond (decide (s110.2.1<(zm way))) (Zb (idx way s110.2.1) λx113=>
Zb (zbX p x113.1) λy115=>
cond (y115.2 !=0) (some (.inr (.inr ((none:Option zan),false,s110.2.2.2.2,s110.2.2.2.1,s110.2.2.1)))) (Zb (idx p.2.1 x113.1) λx117=>
cond (x113.2.1) (Zb (zdp 8 s110.2.2.2.2 ([(w64 (s110.1+y115.1))])) λx126=>
Zb (zdp 8 s110.2.2.2.1 ([x117.2.2.2.1])) λx128=>
Zb (zdp 8 s110.2.2.1 ([(w64 (0-x117.2.2.2.2.1))])) λx130=>
some (.inl ((w64 (s110.1+y115.1)),(w64 (s110.2.1+1)),x130,x128,x126))) (Zb (zdp 8 s110.2.2.2.2 ([(w64 (s110.1+y115.1))])) λx138=>
Zb (zdp 8 s110.2.2.2.1 ([x117.2.2.2.1])) λx140=>
Zb (zdp 8 s110.2.2.1 ([x117.2.2.2.2.1])) λx142=>
some (.inl ((w64 (s110.1+y115.1)),(w64 (s110.2.1+1)),x142,x140,x138))))) (some (.inr (.inl (s110.2.2.2.2,s110.2.2.2.1,s110.2.2.1))))) k (zbb p way i,(i:Int),rlN i (zgN p way),rlN i (zkN p way),rlN i (λj=>zbb p way (j+1))) (.inl (zfU p way,znI p way,znJ p way)):=by
    intro k;induction k with
    | zero=>
      intro i hi;have:i=way.length:=by omega
      subst this;refine Lp.done ?_;simp only [zG,cond_false];rfl
    | succ k ih=>
      intro i hi;have hil:i<way.length:=by omega
      have hb:=zg0 hp hw (i:=i) (by omega);have hb1:=zg0 hp hw (i:=i+1) (by omega);have hsx:=zgZ p way i;have hml:mvl p way i=zhb p (way.getD i M0).1:=rfl;have hwe:w64 (zbb p way i+zhb p (way.getD i M0).1)=zbb p way (i+1):=by
        rw [← hml,← hsx,zh (by omega) (by omega)]
      obtain ⟨_,hs,hr⟩:=zms hp hw hil;have hh:zqX p ((way.getD i M0).1,false,())=true:=zjr.2 (hw.m i hil);have hlen:zbX p (way.getD i M0).1=some (zhb p (way.getD i M0).1,0):=by
        rw [zsE,hv,hh]; rfl
      refine Lp.step ?_ (ih (i+1) (by omega));have a1:∀ (f:Nat->Int) (v:Int),v=f i->zdp 8 (rlN i f) [v]=some (rlN (i+1) f):=λf v hvf=>by
        rw [zaF (by simp only [zgg,List.length_singleton]; omega),zmx,hvf]
      have z0:((0:Int)!=0)=false:=rfl;simp only [zF hil,cond_true,zn M0 hil,Zs,hlen,z0,cond_false,hr,hwe,zy (show i<9223372036854775807 by omega)];have a2:=a1 (λj=>zbb p way (j+1)) (zbb p way (i+1)) rfl;have a3:=a1 (zkN p way) (zhc p way i).2.2.2.1 rfl;simp only [a2,a3,Zs];unfold zgN at hs;cases hrv:(way.getD i M0).2.1 with
      | true=>
        rw [hrv] at hs;simp only [if_true] at hs;have e:w64 (0-(zhc p way i).2.2.2.2.1)=zgN p way i:=by
          unfold zgN;rw [hrv,zh (by omega) (by omega),Int.zero_sub]; rfl
        simp only [a1 (zgN p way) _ e,Zs,cond_true,cond_false]
      | false=>
        have e:(zhc p way i).2.2.2.2.1=zgN p way i:=by
          unfold zgN;rw [hrv]; rfl
        simp only [a1 (zgN p way) _ e,Zs,cond_true,cond_false]
  have hL:=(key way.length 0 (by omega)).big (by simp only [big]; omega);exact hL
theorem zpV (p:Plan) (way:List zM) (t:Train) (st:Int) (stops:List Int) (hwl:way.length<=9223372036854775807) (hsl:stops.length<=9223372036854775807):zdy p way t st stops=some (if zeO p way t st stops then (some (zjs p way t st stops),true) else (none,false)):=by
 unfold zdy zeO;rw [zsi,Zs,zi9 p hwl,Zs];cases hv:zat p with
 | false=>
  simp only [Bool.false_and,Bool.false_eq_true,if_false];cases (trB t&&inB st 0 (t.2.2.2.2.2.2.2.2.2.1.length-1))<;>rfl
 | true=>
 cases hwy:zkD p way with
 | false=>
  simp only [Bool.true_and,Bool.false_and,Bool.and_false,Bool.false_eq_true,if_false];cases (trB t&&inB st 0 (t.2.2.2.2.2.2.2.2.2.1.length-1))<;>rfl
 | true=>
 cases htr:trB t with
 | false=>rfl
 | true=>
 cases hin:inB st 0 (t.2.2.2.2.2.2.2.2.2.1.length-1) with
 | false=>rfl
 | true=>
 have hp:=zdm hv;have hw:=ziM hwy;simp only [Bool.true_and,if_true,Bool.not_true,cond_false,show ((0:Int)!=0)=false from rfl,mwithin,Zs];cases hln:inB (zm stops) 2 100 with
 | false=>rfl
 | true=>
 have hl:=zI.1 hln;rw [zp] at hl;have hl:2<=stops.length/\stops.length<=100:=by omega
 have h0:idx stops 0=some (zdo stops 0):=zn (i:=0) 0 (by omega);simp only [Bool.not_true,cond_false,h0,Zs,zsL hl,Bool.true_and];cases decide (zdo stops 0<t.2.1) with
 | true=>rfl
 | false=>
 simp only [cond_false,Zs,Bool.not_false,Bool.true_and];by_cases hgt:zdo stops (stops.length-1)>wlS p way
 . rw [decide_eq_true hgt,decide_eq_false (show ¬ zdo stops (stops.length-1)<=wlS p way by omega),Bool.and_false]; rfl
 . rw [decide_eq_false hgt,decide_eq_true (show zdo stops (stops.length-1)<=wlS p way by omega),Bool.and_true,cond_false];rw [zpU (τ:=Unit⊕((Option zan)×Bool)) hl (.inr (none,false)) (.inl ()) (λs=>rfl),Zs];cases zzi stops with
   | false=>rfl
   | true=>
    simp only [if_true,zaG,Zs];have hB:=zvc (t:=t) hv hp hw;exact congrArg (λo=>Zb o λt144:((List Int)×(List Int)×(List Int))⊕((Option zan)×Bool×(List Int)×(List Int)×(List Int))=>alt (λb146=>some ((some ((t,st,()),way,b146.1,b146.2.1,b146.2.2,stops,())),true)) (λb147=>some (b147.1,b147.2.1)) t144) hB
theorem zsM (p:Plan) (way:List zM) (t:Train) (st:Int) (stops:List Int) (hwl:way.length<=9223372036854775807) (hsl:stops.length<=9223372036854775807):zd6 p way t st stops=some (zeO p way t st stops):=by
 unfold zd6 zeO;rw [zkm,Zs];cases hv:zat p with
 | false=>rfl
 | true=>
 have hp:=zdm hv;rw [zsB hp hwl,Zs];cases hwy:zkD p way with
 | false=>rfl
 | true=>
 have hw:=ziM hwy;rw [zuN,Zs];cases htr:trB t with
 | false=>rfl
 | true=>
 have ht:=zoS.1 htr;simp only [Bool.not_true,cond_false,Zs,rin,wlen ht,Bool.true_and];cases hin:inB st 0 (t.2.2.2.2.2.2.2.2.2.1.length-1) with
 | false=>rfl
 | true=>
 simp only [Bool.not_true,cond_false,Zs,Bool.true_and];cases hln:inB (zm stops) 2 100 with
 | false=>rfl
 | true=>
 have hl:=zI.1 hln;rw [zp] at hl;have hl:2<=stops.length/\stops.length<=100:=by omega
 have h0:idx stops 0=some (zdo stops 0):=zn (i:=0) 0 (by omega);simp only [Bool.not_true,cond_false,h0,Zs,zsL hl,Bool.true_and];cases decide (zdo stops 0<t.2.1) with
 | true=>rfl
 | false=>
 simp only [cond_false,Zs,Bool.not_false,Bool.true_and];rw [zpU (τ:=Unit⊕Bool) hl (.inr false) (.inl ()) (λs=>rfl),Zs];cases zzi stops with
 | false=>rfl
 | true=>
  simp only [if_true,zaG,Zs,zvO hp hw,Bool.true_and]
end Go.Ai.Sx
/- Motion: all legs. -/
namespace Go.Ai.Sx
open Option renaming bind->Zb,bind_some->Zs
def zvd (p_2:Train) (y1:Option zan) (x7:List Int):((List Leg)×Int×Int×Int)->Option (((List Leg)×Int×Int×Int)⊕(((List Leg)×Int×Int)⊕((List Leg)×Int×Int×Int))):=(λs32=>
cond (decide (s32.2.1<(zm x7))) (Zb (idx x7 s32.2.1) λx35=>
Zb (y1) λp36=>
Zb (zbd p36 (s32.2.2.1,s32.2.2.2,()) x35) λy37=>
cond (!y37.2.2) (some (.inr (.inr ([],4,s32.2.2.1,s32.2.2.2)))) (cond (decide (s32.2.2.2>10000000000000000)) (some (.inr (.inr ([],4,s32.2.2.1,s32.2.2.2)))) (Zb (zdp 80 s32.1 ([y37.1])) λx44=>
some (.inl (x44,(w64 (s32.2.1+1)),y37.2.1.1,y37.2.1.2.1))))) (some (.inr (.inl (s32.1,s32.2.2.1,s32.2.2.2)))))
def zpW (p_0:Plan) (p_1:List zM) (p_2:Train) (p_3:Int) (p_4:List Int):((List Leg)×Int×Int×Int)->Option (((List Leg)×Int×Int×Int)⊕(((List Leg)×Int×Int)⊕((List Leg)×Bool))):=λs281=>
cond (decide (s281.2.1<(zm p_4))) (Zb (idx p_4 s281.2.1) λx286=>
Zb (iter (zmw p_0 p_1 p_2 p_3 p_4 s281.2.1 x286) big (0,0,0,0,0,0,0,0,0,0,s281.2.2.1,s281.2.2.2)) (zqJ p_2 s281.1 s281.2.1)) (some (.inr (.inl (s281.1,s281.2.2.1,s281.2.2.2))))
section
variable (p:Plan) (way:List zM) (t:Train) (st:Int)
def zkE:List Int->zd->Option (List Leg×zd)
 | [],x=>some ([],x)
 | s::r,x=>match zkO p way t st s 36000 0 (0,0,0,0,0,0,()) 0 0 x with
  | none=>none
  | some (g,y)=>match zkE r y with
   | none=>none
   | some (gs,z)=>some (g::gs,z)
end
structure RunOk (p:Plan) (way:List zM) (t:Train) (st:Int) (stops:List Int):Prop where
 hp:zi7 p
 hw:zhv p way
 ht:zkC t
 hst:0<=st/\st<t.2.2.2.2.2.2.2.2.2.1.length
 hn:2<=stops.length/\stops.length<=100
 h0:t.2.1<=zdo stops 0
 up:∀ k,k+1<stops.length->zdo stops k<zdo stops (k+1)
 la:zdo stops (stops.length-1)<=wlS p way
 b:wlS p way<=248000000
section
variable {p:Plan} {way:List zM} {t:Train} {st:Int} {stops:List Int} (R:RunOk p way t st stops)
include R
theorem zpX {i j:Nat} (h:i<=j) (hj:j<stops.length):zdo stops i<=zdo stops j:=by
 induction j with
 | zero=>rw [show i=0 by omega]; omega
 | succ j ih=>
  by_cases e:i=j+1
  . subst e; omega
  . have h1:=ih (by omega) (by omega);have h2:=R.up j hj;omega
theorem zsN {i:Nat} (hi:i<stops.length):1<=zdo stops i/\zdo stops i<=248000000:=by
 have h1:=zpX R (Nat.zero_le i) hi;have h2:=zpX R (i:=i) (j:=stops.length-1) (by omega) (by omega);have:=R.h0;have:=R.la;have:=R.b;have:=R.ht.len;omega
theorem zpY {stop:Int} (hS:stop<=1000000000):∀ (n:Nat) (tm:Int) (l:zV) (a b:Int) (x:zd) (g:Leg) (y:zd),zmF t stop x->zkO p way t st stop n tm l a b x=some (g,y)->zmF t stop y:=by
 intro n;induction n with
 | zero=>
  intro tm l a b x g y hx h;unfold zkO at h;split at h
  . cases h; exact hx
  . cases h
 | succ n ih=>
  intro tm l a b x g y hx h;unfold zkO at h;split at h
  . cases h; exact hx
  . cases hd:zqI p way t st stop x with
    | none=>rw [hd] at h; cases h
    | some d=>
     rw [hd] at h;exact ih _ _ _ _ _ _ _ (zmv R.hp R.hw R.ht R.hst hS hx hd).1 h
theorem zmF.up {s s':Int} {x:zd} (h:zmF t s x) (hs:s<=s'):zmF t s' x:=⟨h.p,h.w,by have:=h.s; omega⟩
theorem zzj {i:Nat} (h:i+1<stops.length):stops.drop (i+1)=zdo stops (i+1)::stops.drop (i+2):=by
 rw [List.drop_eq_getElem_cons h];congr 1;unfold zdo;simp [h]
theorem zve:∀ (k i:Nat) (acc:List Leg) (x:zd),i+k+1=stops.length->acc.length<=i->zmF t (zdo stops i) x->∃ T,Lp (zvd t (some (zjs p way t st stops)) (stops.drop 1)) k (acc,(i:Int),x.1,x.2.1) T/\(match zkE p way t st (stops.drop (i+1)) x with | some (gs,z)=>T=.inl (acc++gs,z.1,z.2.1) | none=>∃ v w,T=.inr ([],4,v,w)):=by
 have hn:=R.hn;intro k;induction k with
 | zero=>
  intro i acc x hi hacc hx;refine ⟨.inl (acc,x.1,x.2.1),Lp.done ?_, ?_⟩
  ·unfold zvd;have:(stops.drop 1).length=i:=by rw [List.length_drop]; omega
   subst this;simp only [zG,cond_false]
  ·rw [List.drop_of_length_le (by omega)];unfold zkE;simp only [List.append_nil]
 | succ k ih=>
  intro i acc x hi hacc hx;have hi1:i+1<stops.length:=by omega
  have hb:=zsN R hi1;have hup:=R.up i hi1;have hxn:=zmF.up R hx (s':=zdo stops (i+1)) (by omega);have hw:x.2.1<=1000000000000000:=hx.w.2;have hdl:(stops.drop 1).length=stops.length-1:=by rw [List.length_drop]
  have hix:idx (stops.drop 1) (i:Int)=some (zdo stops (i+1)):=by
   rw [zn 0 (by omega)];congr 1;unfold zdo;simp [List.getD,Nat.add_comm]
  rw [zzj R hi1];obtain ⟨L,X,hleg⟩:=zzh (stops:=stops) R.hp R.hw R.ht R.hst (stop:=zdo stops (i+1)) (by omega) hxn;unfold zkE;cases hl:zkO p way t st (zdo stops (i+1)) 36000 0 (0,0,0,0,0,0,()) 0 0 x with
  | none=>
   rw [hl] at hleg;refine ⟨.inr ([],4,x.1,x.2.1),Lp.done ?_,⟨_,_,rfl⟩⟩;unfold zvd;simp only [zF (show i<(stops.drop 1).length by omega),cond_true,hix,Zs];show (Zb (zbd (zjs p way t st stops) x (zdo stops (i+1))) _:Option _)=_;rw [hleg]; rfl
  | some gy=>
   obtain ⟨g,y⟩:=gy;rw [hl] at hleg;have hy:=zpY R (by omega) _ _ _ _ _ _ _ _ hxn hl;obtain ⟨T,h1,h2⟩:=ih (i+1) (acc++[g]) y (by omega) (by simp; omega) hy;refine ⟨T,Lp.step ?_ h1, ?_⟩
   ·unfold zvd;simp only [zF (show i<(stops.drop 1).length by omega),cond_true,hix,Zs];show (Zb (zbd (zjs p way t st stops) x (zdo stops (i+1))) _:Option _)=_;rw [hleg,Zs];simp only [Bool.not_true,cond_false,decide_eq_false (show ¬ x.2.1>10000000000000000 by omega)];rw [zaF (by simp; omega),Zs,zy (by omega)]
   ·simp only [];rw [show i+1+1=i+2 by omega] at h2;cases hd:zkE p way t st (stops.drop (i+2)) y with
    | none=>rw [hd] at h2; exact h2
    | some gz=>
     rw [hd] at h2;simp only [] at h2 ⊢;rw [h2,List.append_assoc]; rfl
theorem zsO:∀ (k i:Nat) (acc:List Leg) (x:zd),i+k+1=stops.length->acc.length<=i->zmF t (zdo stops i) x->∃ T,Lp (zpW p way t st stops) k (acc,((i+1:Nat):Int),x.1,x.2.1) T/\(match zkE p way t st (stops.drop (i+1)) x with | some (gs,z)=>T=.inl (acc++gs,z.1,z.2.1)/\z.2.1<=1000000000000000 | none=>T=.inr ([],false)):=by
 have hn:=R.hn;intro k;induction k with
 | zero=>
  intro i acc x hi hacc hx;refine ⟨.inl (acc,x.1,x.2.1),Lp.done ?_, ?_⟩
  ·unfold zpW;have:stops.length=i+1:=by omega
   rw [← this];simp only [zG,cond_false]
  ·rw [List.drop_of_length_le (by omega)];unfold zkE;simp only [List.append_nil];exact ⟨trivial,hx.w.2⟩
 | succ k ih=>
  intro i acc x hi hacc hx;have hi1:i+1<stops.length:=by omega
  have hb:=zsN R hi1;have hup:=R.up i hi1;have hxn:=zmF.up R hx (s':=zdo stops (i+1)) (by omega);have hw:x.2.1<=1000000000000000:=hx.w.2;have hix:idx stops ((i+1:Nat):Int)=some (zdo stops (i+1)):=zn 0 hi1;rw [zzj R hi1];have hleg:=zxS (stops:=stops) (i:=((i+1:Nat):Int)) R.hp R.hw R.ht R.hst (stop:=zdo stops (i+1)) (by omega) hix (by omega) (by omega) hxn acc (by omega);unfold zkE;cases hl:zkO p way t st (zdo stops (i+1)) 36000 0 (0,0,0,0,0,0,()) 0 0 x with
  | none=>
   rw [hl] at hleg;refine ⟨.inr ([],false),Lp.done ?_,rfl⟩;unfold zpW;simp only [zF hi1,cond_true,hix,Zs];exact hleg
  | some gy=>
   obtain ⟨g,y⟩:=gy;rw [hl] at hleg;have hy:=zpY R (by omega) _ _ _ _ _ _ _ _ hxn hl;obtain ⟨T,h1,h2⟩:=ih (i+1) (acc++[g]) y (by omega) (by simp; omega) hy;refine ⟨T,Lp.step ?_ h1, ?_⟩
   ·unfold zpW;simp only [zF hi1,cond_true,hix,Zs];rw [zy (by omega)] at hleg;exact hleg
   ·simp only [];rw [show i+1+1=i+2 by omega] at h2;cases hd:zkE p way t st (stops.drop (i+2)) y with
    | none=>rw [hd] at h2; exact h2
    | some gz=>
     rw [hd] at h2;simp only [] at h2 ⊢;refine ⟨?_,h2.2⟩;rw [h2.1,List.append_assoc]; rfl
def st0 (t:Train) (stops:List Int):zd:=(0,10*t.1*zdo stops 0,())
theorem zpZ:w64 (w64 (10*t.1)*zdo stops 0)=(st0 t stops).2.1/\zmF t (zdo stops 0) (st0 t stops):=by
 have hm:=R.ht.m;have hn:=R.hn;have hb:=zsN R (i:=0) (by omega);have h1:=zck (a:=10*t.1) (b:=zdo stops 0) (A:=800000) (B:=248000000) ⟨by omega,by omega⟩ ⟨by omega,by omega⟩;refine ⟨?_,⟨by show (0:Int)<=0; omega,by show (0:Int)<=_; omega⟩,⟨?_,by show 10*t.1*zdo stops 0<=_; omega⟩, ?_⟩
 . rw [zh (n:=10*t.1) (by omega) (by omega),zh (by omega) (by omega)]; rfl
 . show 10*t.1<=10*t.1*zdo stops 0;have h9:10*t.1*1<=10*t.1*zdo stops 0:=Int.mul_le_mul_of_nonneg_left hb.1 (by omega);omega
 . show 10*t.1*zdo stops 0/(10*t.1)<=zdo stops 0;rw [Int.mul_ediv_cancel_left _ (by omega)];omega
def zg4 (p:Plan) (way:List zM) (t:Train) (st:Int) (stops:List Int):Option (List Leg):=(zkE p way t st (stops.drop 1) (st0 t stops)).map (·.1)
theorem zsP (hsb:zeO p way t st stops=true):zbY p way t st stops=some (match zg4 p way t st stops with | some gs=>(gs,0) | none=>([],4)):=by
 have hn:=R.hn;have hw:=R.hw.n;unfold zbY;rw [zpV p way t st stops (by omega) (by omega),hsb];simp only [if_true,Zs,Bool.not_true,cond_false];have h0:idx stops 0=some (zdo stops 0):=zn (i:=0) 0 (by omega);have hsl:slO stops 1 (zm stops)=some (stops.drop 1):=by
  rw [zuJ (by rw [zp]; omega),zp];simp
 rw [h0,Zs,hsl,Zs,(zpZ R).1];obtain ⟨T,h1,h2⟩:=zve R (stops.length-1) 0 [] (st0 t stops) (by omega) (by simp) (zpZ R).2;have hB:=h1.big (by simp only [big]; omega);refine (congrArg (λo=>Zb o λt46:((List Leg)×Int×Int)⊕((List Leg)×Int×Int×Int)=>alt (λb48=>some (b48.1,(0:Int))) (λb49=>some (b49.1,b49.2.1)) t46) hB).trans ?_;rw [Zs];unfold zg4;rw [Nat.zero_add] at h2;cases hd:zkE p way t st (stops.drop 1) (st0 t stops) with
 | some gz=>
  rw [hd] at h2;simp only [] at h2;rw [h2]; rfl
 | none=>
  rw [hd] at h2;obtain ⟨v,w,h2⟩:=h2;rw [h2]; rfl
theorem zqK:zd7 p way t st stops=some (match zg4 p way t st stops with | some gs=>(gs,true) | none=>([],false)):=by
 have hn:=R.hn;have hw:=R.hw.n;have h0:idx stops 0=some (zdo stops 0):=zn (i:=0) 0 (by omega);obtain ⟨T,h1,h2⟩:=zsO R (stops.length-1) 0 [] (st0 t stops) (by omega) (by simp) (zpZ R).2;have hB:=h1.big (by simp only [big]; omega);rw [← (zpZ R).1] at hB;unfold zd7;rw [h0,Zs];refine (congrArg (λo=>Zb o λt421:((List Leg)×Int×Int)⊕((List Leg)×Bool)=>alt (λb423=>some (b423.1,(decide (b423.2.2<=10000000000000000)))) (λb424=>some (b424.1,b424.2)) t421) hB).trans ?_;rw [Zs];unfold zg4;rw [Nat.zero_add] at h2;cases hd:zkE p way t st (stops.drop 1) (st0 t stops) with
 | some gz=>
  rw [hd] at h2;simp only [] at h2;rw [h2.1];simp only [zaG,decide_eq_true (show gz.2.2.1<=10000000000000000 by have:=h2.2; omega)];rfl
 | none=>
  rw [hd] at h2;simp only [] at h2;rw [h2]; rfl
end
end Go.Ai.Sx
/- Motion: the law of the drive. -/
namespace Go.Ai.Sx
open Option renaming bind->Zb,bind_some->Zs
theorem zsQ {l:List Leg} (hl:l.length<=1000):zaD l (λx=>zew x)=some (l.map (·.1)):=by
  unfold zaD;have hL:=zcE (f:=λs7:List Int×Int=>
cond (decide (s7.2<(zm l))) (Zb (idx l s7.2) λx10=>
Zb (zew x10) λy12=>
Zb (zdp 8 s7.1 ([y12])) λx13=>
some (.inl (x13,(w64 (s7.2+1))))) (some (.inr s7.1))) l (λi b=>(b,(i:Int))) (λ_ b c=>(.inl (b++[c.1]):List Int⊕List Int)) (λb=>b) (λi b=>b.length=i) [] (s0:=([],0)) rfl (by omega) rfl (λi h b hb=>by
      refine ⟨?_,λb' hb'=>?_⟩
      · simp only [];rw [zF h,cond_true,zdd,List.getElem?_eq_getElem h,Zs];show (Zb (some l[i].1) _:Option _)=_;rw [Zs,zaF (by simp; omega),Zs,zy (by omega)]
      · cases hb'; simp; omega) (λb _=>by simp only [zG,cond_false])
  rw [hL,zfd,Zs];have:∀ (l:List Leg) (b:List Int),l.foldl (λb c=>b++[c.1]) b=b++l.map (·.1):=by
    intro l;induction l with
    | nil=>intro b; simp
    | cons a l ih=>intro b; rw [List.foldl_cons,ih]; simp
  rw [this]; rfl
theorem zsR {p:Plan} {way:List zM} {t:Train} {st:Int} {stops:List Int} {gs:List Leg} {e:Int} (h:zbY p way t st stops=some (gs,e)) (hl:gs.length<=1000):zbK p way t st stops=some (if e=0 then (gs.map (·.1),0) else ([],e)):=by
 unfold zbK;rw [h,Zs];by_cases h0:e=0
 . subst h0;simp only [show ((0:Int)!=0)=false from rfl,cond_false,zsQ hl,Zs];rfl
 . have hb:(e !=0)=true:=by simpa using h0
   simp only [hb,cond_true];rw [if_neg h0]
section
variable {p:Plan} {way:List zM} {t:Train} {st:Int} {stops:List Int} (R:RunOk p way t st stops)
include R
omit R in
theorem zp0:∀ {r:List Int} {x:zd} {gs:List Leg} {z:zd},zkE p way t st r x=some (gs,z)->gs.length=r.length
 | [],x,gs,z,h=>by unfold zkE at h; cases h; rfl
 | s::r,x,gs,z,h=>by
  unfold zkE at h;cases hl:zkO p way t st s 36000 0 (0,0,0,0,0,0,()) 0 0 x with
  | none=>rw [hl] at h; cases h
  | some gy=>
   rw [hl] at h;simp only [] at h;cases hd:zkE p way t st r gy.2 with
   | none=>rw [hd] at h; cases h
   | some q=>
    rw [hd] at h;cases h;have:=zp0 hd;simp [this]
theorem zmy {gs:List Leg} (h:zg4 p way t st stops=some gs):gs.length=stops.length-1:=by
 unfold zg4 at h;cases hd:zkE p way t st (stops.drop 1) (st0 t stops) with
 | none=>rw [hd] at h; cases h
 | some q=>
  rw [hd] at h;cases h;rw [zp0 hd,List.length_drop]
end
end Go.Ai.Sx
/- Motion: a run's times,for callers in other chapters. -/
namespace Go.Ai.Sx
open Option renaming bind->Zb,bind_some->Zs
theorem ziP {p:Plan} {way:List zM} {t:Train} {st:Int} {stops:List Int} (h:zeO p way t st stops=true) (hb:wlS p way<=248000000):RunOk p way t st stops:=by
 unfold zeO at h;simp only [Bool.and_eq_true] at h;obtain ⟨h1,h2,h3,h4,h5,h6,h7,h8⟩:=h;have hp:=zdm h1;have hw:=ziM h2;have h4:=zI.1 h4;have h5:=zI.1 h5;rw [zp] at h5;refine ⟨hp,hw,zoS.1 h3,by omega,by omega, ?_,λk hk=>?_,of_decide_eq_true h8,hb⟩
 . rw [Bool.not_eq_true',decide_eq_false_iff_not] at h6; omega
 . unfold zzi at h7;have:=List.all_eq_true.1 h7 k (List.mem_range.2 (by omega));rw [Bool.not_eq_true',decide_eq_false_iff_not] at this; omega
theorem zsS {p:Plan} {way:List zM} {t:Train} {st:Int} {stops:List Int} (hwl:way.length<=9223372036854775807) (hsl:stops.length<=9223372036854775807) (h:zeO p way t st stops=false):zbY p way t st stops=some ([],2):=by
 unfold zbY;rw [zpV p way t st stops hwl hsl,h];rfl
theorem zxT {p:Plan} {way:List zM} {t:Train} {st:Int} {stops:List Int} (h:zeO p way t st stops=true) (hb:wlS p way<=248000000):zbK p way t st stops=some (match zg4 p way t st stops with | some gs=>(gs.map (·.1),0) | none=>([],4)):=by
 have R:=ziP h hb;have hn:=R.hn;have hd:=zsP R h;cases hl:zg4 p way t st stops with
 | none=>
  rw [hl] at hd;simp only [] at hd;rw [zsR hd (by simp)]; rfl
 | some gs=>
  rw [hl] at hd;simp only [] at hd;have hlen:=zmy R hl;rw [zsR hd (by omega)]; rfl
theorem zzk {p:Plan} {way:List zM} {t:Train} {st:Int} {stops:List Int} (hwl:way.length<=9223372036854775807) (hsl:stops.length<=9223372036854775807) (h:zeO p way t st stops=false):zbK p way t st stops=some ([],2):=by
 rw [zsR (zsS hwl hsl h) (by simp)]; rfl
end Go.Ai.Sx
/- Motion: how long legs take. -/
namespace Go.Ai.Sx
open Option renaming bind->Zb,bind_some->Zs
section
variable {p:Plan} {way:List zM} {t:Train} {st:Int} {stops:List Int}
theorem zvR {stop:Int}:∀ (n:Nat) (tm:Int) (l:zV) (a b:Int) (x:zd) (g:Leg) (y:zd),zkO p way t st stop n tm l a b x=some (g,y)->tm<=g.1/\g.1<=tm+100*n
 | 0,tm,l,a,b,x,g,y,h=>by
  unfold zkO at h;split at h
  . cases h; simp
  . cases h
 | n+1,tm,l,a,b,x,g,y,h=>by
  unfold zkO at h;split at h
  . cases h; simp only []; omega
  . split at h
    . cases h
    . have:=zvR n _ _ _ _ _ _ _ h;omega
theorem zvS:∀ {r:List Int} {x:zd} {gs:List Leg} {z:zd},zkE p way t st r x=some (gs,z)->∀ g∈gs,0<=g.1/\g.1<=3600000
 | [],x,gs,z,h=>by unfold zkE at h; cases h; simp
 | s::r,x,gs,z,h=>by
  unfold zkE at h;cases hl:zkO p way t st s 36000 0 (0,0,0,0,0,0,()) 0 0 x with
  | none=>rw [hl] at h; cases h
  | some gy=>
   rw [hl] at h;simp only [] at h;cases hd:zkE p way t st r gy.2 with
   | none=>rw [hd] at h; cases h
   | some q=>
    rw [hd] at h;cases h;intro g hg;rcases List.mem_cons.1 hg with rfl | hg
    ·have:=zvR 36000 0 _ _ _ _ gy.1 gy.2 hl;omega
    ·exact zvS hd g hg
theorem zxU {gs:List Leg} (h:zg4 p way t st stops=some gs):∀ g∈gs,0<=g.1/\g.1<=3600000:=by
 unfold zg4 at h;cases hd:zkE p way t st (stops.drop 1) (st0 t stops) with
 | none=>rw [hd] at h; cases h
 | some q=>
  rw [hd] at h;cases h;exact zvS hd
end
end Go.Ai.Sx
/- Service: numbers modulo others,departures. -/
namespace Go.Ai.Sx
open Option renaming bind->Zb,bind_some->Zs
theorem zsT {n h:Int} (hh:0<h):-h<n.tmod h/\n.tmod h<h:=⟨by
 by_cases hn:0<=n
 . have:=Int.tmod_nonneg h hn; omega
 . have h1:(-n).tmod h<h:=Int.tmod_lt_of_pos _ hh;rw [Int.neg_tmod] at h1;omega,Int.tmod_lt_of_pos _ hh⟩
theorem zxV {n h:Int} (hh:0<h):(n.tmod h+h).tmod h=n%h:=by
 have hb:=zsT (n:=n) hh;rw [Int.tmod_eq_emod_of_nonneg (by omega),Int.add_emod_right];have e:=Int.tmod_add_mul_tdiv n h;have e2:n=n.tmod h+h*n.tdiv h:=e.symm
 conv=>rhs; rw [e2]
 rw [Int.add_mul_emod_self_left]
theorem zsU {n h:Int} (hh:0<h) (h2:h<=1000000000000):(Zb (zl5 n h) λx=>zl5 (w64 (x+h)) h)=some (n%h):=by
 have hb:=zsT (n:=n) hh;unfold zl5;rw [if_neg (by omega),Zs,if_neg (by omega),zh (by omega) (by omega),zxV hh]
theorem zxW {r h:Int} (hh:0<h):((r+h-1)/h-1)*h<r/\r<=(r+h-1)/h*h:=by
 have h1:=Int.emod_add_mul_ediv (r+h-1) h;have h2:=Int.emod_nonneg (r+h-1) (show h≠0 by omega);have h3:=Int.emod_lt_of_pos (r+h-1) hh;rw [Int.sub_mul,Int.one_mul,Int.mul_comm ((r+h-1)/h) h];omega
end Go.Ai.Sx